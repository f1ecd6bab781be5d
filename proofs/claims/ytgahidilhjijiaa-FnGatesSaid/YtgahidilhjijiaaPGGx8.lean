import Derived.Test.YtgahidilhjijiaaPGGx0
import Derived.Test.YtgahidilhjijiaaPGGx2
import Derived.Test.YtgahidilhjijiaaPGGx3
import Derived.Test.YtgahidilhjijiaaPGGx6
namespace Go.Proofs.Ytgahidilhjijiaa.PGG
open Go.RowKit Go.Proofs.YtgahidilhjijiaaW.PrintWords Go.Proofs.YtgahidilhjijiaaW.PrintLast Go.Proofs.YtgahidilhjijiaaW.PrintMore
attribute [local go_sem] max2_int min2_int max_two min_two max_three min_three max_four min_four   -- for this text's walks alone
set_option linter.unusedVariables false
set_option linter.unusedSimpArgs false
def impl_InputsOf.f (k : Nat) (l0 : List (S69)) : Option (List Int × Bool) := (impl_GoodGates.f k l0).bind fun t448 => (if t448 = true then ((impl_inputs.f k l0).bind fun t449 => (some (t449, true))) else (some (([] : List Int), false)))
set_option maxHeartbeats 8000000 in
set_option maxRecDepth 100000 in
theorem impl_InputsOf.calls (k : Nat) (A0 : Option Addr) (c0 : Nat) (l0 : List (S69)) (r1 : List Int) (r2 : Bool) (w : World) (hr0 : Kd.C k69 w A0 l0.length l0) (hc0 : l0.length ≤ c0) (h : impl_InputsOf.f k l0 = some (r1, r2)) :
  Calls Try.prog 22 #[.slice A0 l0.length c0] w fun e w' => ∃ v0_ : Value, e = .returned (.tuple #[v0_, .bool r2]) ∧ Kd.R (Kd.int .i64) 3 w' w.heap.size (fun _ => True) v0_ r1 ∧ Below w.heap.size w w' := by
 have HR0 := am_ hr0
 have HC0 := am_ hc0
 clear hr0 hc0
 have HB := am_ (Below.refl w.heap.size w)
 have H : ((impl_GoodGates.f k l0).bind fun t448 => (if t448 = true then ((impl_inputs.f k l0).bind fun t449 => (some (t449, true))) else (some (([] : List Int), false)))) = some (r1, r2) := h
 clear h
 replace H := Option.bind_eq_some_iff.mp H
 obtain ⟨t448, A20, H⟩ := H
 replace H : (if t448 = true then ((impl_inputs.f k l0).bind fun t449 => (some (t449, true))) else (some (([] : List Int), false))) = some (r1, r2) := H
 have A2 := am_ A20
 clear A20
 by_cases c3 : t448 = true
 ·subst c3
  have H1 : ((impl_inputs.f k l0).bind fun t449 => (some (t449, true))) = some (r1, r2) := by rw [if_pos rfl] at H; exact H
  clear H
  have H := H1
  clear H1
  replace H := Option.bind_eq_some_iff.mp H
  obtain ⟨t449, A40, H⟩ := H
  replace H : (some (t449, true)) = some (r1, r2) := H
  have A4 := am_ A40
  clear A40
  simp only [Option.some.injEq, Prod.mk.injEq] at H
  obtain ⟨rfl, rfl⟩ := H
  go_enter Try.func22, Try.ntmps22
  go_wp2_with (first | ((with_reducible refine gl_ 34 rfl ?_); refine goesM_ (some 5) Try.func34 #[.slice A0 l0.length c0] ?_; (with_reducible refine (impl_GoodGates.calls k _ _ l0 true _ ?side1 ?side2 A2.out).mono ?_); (case side1 => exact cm_ HR0.out); (case side2 => exact HC0.out); rintro e w5 ⟨rfl, hb⟩; refine ⟨_, rfl, ?_⟩; replace HB := bs_ hb; (try clear hb)) | ((with_reducible refine gl_ 54 rfl ?_); refine goesM_ (some 8) Try.func54 #[.slice A0 l0.length c0] ?_; (with_reducible refine (impl_inputs.calls k _ _ l0 t449 _ ?side1 ?side2 A4.out).mono ?_); (case side1 => exact cm_ (Kd.C_below HR0.out HB.out)); (case side2 => exact HC0.out); rintro e w6 ⟨v450, rfl, ho0, hb⟩; refine ⟨_, rfl, ?_⟩; have HO451 := am_ (Kd.R_lower ho0 (below_size (bq_))); replace HB := bs_ hb; (try clear hb); (try clear ho0)))
  go_ret2
  exact ⟨_, by first | rfl | (simp [errW_none, errW_some] <;> rfl) | (simp [*, errW_none, errW_some] <;> rfl), rq_ HO451.out, bq_⟩
 ·replace c3 := Bool.eq_false_iff.mpr c3
  subst c3
  have H1 : (some (([] : List Int), false)) = some (r1, r2) := by rw [if_neg (show ¬ (false = true) by decide)] at H; exact H
  clear H
  have H := H1
  clear H1
  simp only [Option.some.injEq, Prod.mk.injEq] at H
  obtain ⟨rfl, rfl⟩ := H
  go_enter Try.func22, Try.ntmps22
  go_wp2_with (first | ((with_reducible refine gl_ 34 rfl ?_); refine goesM_ (some 5) Try.func34 #[.slice A0 l0.length c0] ?_; (with_reducible refine (impl_GoodGates.calls k _ _ l0 false _ ?side1 ?side2 A2.out).mono ?_); (case side1 => exact cm_ HR0.out); (case side2 => exact HC0.out); rintro e w7 ⟨rfl, hb⟩; refine ⟨_, rfl, ?_⟩; replace HB := bs_ hb; (try clear hb)))
  go_ret2
  exact ⟨_, by first | rfl | (simp [errW_none, errW_some] <;> rfl) | (simp [*, errW_none, errW_some] <;> rfl), by first | exact Kd.R_nil _ _ _ _ _ | exact Kd.N_nil _ _ _ _ _ | exact Kd.V_nil _ _ _ _ _ | exact Kd.Q_nil _ _ _ _ _ | exact Kd.S_nil _ _ _ _ _, bq_⟩
def impl_isLiteral.f (a0 : Int) (a1 : Int) : Option (Bool) := if a0 = 0 then (some false) else ((impl_in.f a0 (wrap64 (-a1)) a1).bind fun t452 => (some t452))
set_option maxHeartbeats 8000000 in
set_option maxRecDepth 100000 in
theorem impl_isLiteral.calls (a0 : Int) (a1 : Int) (r : Bool) (w : World) (h : impl_isLiteral.f a0 a1 = some r) :
  Calls Try.prog 75 #[.int .i64 a0, .int .i64 a1] w fun e w' => e = .returned (.bool r) ∧ Drawn0 w w' := by
 have H : (if a0 = 0 then (some false) else ((impl_in.f a0 (wrap64 (-a1)) a1).bind fun t452 => (some t452))) = some r := h
 clear h
 by_cases c3 : a0 = 0
 ·rw [if_pos c3] at H
  have c3b0 : (a0 == 0) = true := beq_iff_eq.mpr c3
  have c3b1 : (a0 != 0) = false := bne_eq_false_iff_eq.mpr c3
  clear c3
  obtain rfl := Option.some.inj H
  go_enter Try.func75, Try.ntmps75
  go_wp2
  go_ret
  exact ⟨by first | rfl | (simp; done) | (simp [*]; done), by repeat (first | exact Drawn0.refl _ | apply Drawn0.step)⟩
 ·rw [if_neg c3] at H
  have c3b0 : (a0 == 0) = false := beq_eq_false_iff_ne.mpr c3
  have c3b1 : (a0 != 0) = true := bne_iff_ne.mpr c3
  replace H := Option.bind_eq_some_iff.mp H
  obtain ⟨t452, A40, H⟩ := H
  replace H : (some t452) = some r := H
  have A4 := am_ A40
  clear A40
  obtain rfl := Option.some.inj H
  go_enter Try.func75, Try.ntmps75
  go_wp2_with (first | (go_at_call 44; (with_reducible refine (impl_in.calls a0 (wrap64 (-a1)) a1 t452 _ A4.out).mono ?_); rintro e w' ⟨rfl, ⟨nd, rfl⟩⟩))
  go_ret
  exact ⟨by first | rfl | (simp; done) | (simp [*]; done), by repeat (first | exact Drawn0.refl _ | apply Drawn0.step)⟩
def impl_variable.f (a0 : Int) : Option Int := some (if a0 < wrap64 (-a0) then wrap64 (-a0) else a0)
set_option maxHeartbeats 8000000 in
set_option maxRecDepth 100000 in
theorem impl_variable.calls (a0 : Int) (r : Int) (w : World) (h : impl_variable.f a0 = some r) :
  Calls Try.prog 78 #[.int .i64 a0] w fun e w' => e = .returned (.int .i64 r) ∧ Drawn0 w w' := by
 obtain rfl := Option.some.inj h
 clear h
 go_enter Try.func78, Try.ntmps78
 go_wp2
 all_goals go_ret
 all_goals exact ⟨by first | rfl | (simp; done) | (simp [*]; done), by repeat (first | exact Drawn0.refl _ | apply Drawn0.step)⟩
theorem impl_isClause.cl_drewN {w : World} {p : Addr} {v : Value} (h : w.cell? p = some v) (n : Nat) : (w.drewN n).cell? p = some v := (Below.cell (pw_below_drewN (Below.refl (p.block + 1) w) n) (Nat.lt_succ_self _)).trans h
theorem impl_isClause.cl_drawn {w W : World} {p : Addr} {v : Value} (h : w.cell? p = some v) (hd : Drawn0 w W) : W.cell? p = some v := by
 obtain ⟨m, rfl⟩ := hd
 exact impl_isClause.cl_drewN h m
def impl_isClause.np (n x : Int) : Option Bool := (impl_variable.f x).bind fun a => (impl_variable.f n).bind fun b => some (a == b)
set_option maxHeartbeats 8000000 in
set_option maxRecDepth 100000 in
theorem impl_isClause.np_calls (n : Int) (B : Nat) (x : Int) (r : Bool) (w : World) (hcl : w.cell? ⟨B, 0, none⟩ = some (.int .i64 n)) (h : impl_isClause.np n x = some r) :
  Calls Try.prog 77 #[.int .i64 x, .pointer (some ⟨B, 0, none⟩)] w fun e w' => e = .returned (.bool r) ∧ Drawn0 w w' := by
 obtain ⟨a, A70, H⟩ := Option.bind_eq_some_iff.mp h
 obtain ⟨b, A80, H⟩ := Option.bind_eq_some_iff.mp H
 obtain rfl := Option.some.inj H
 have A7 := am_ A70
 have A8 := am_ A80
 clear A70 A80 H h
 go_enter Try.func77, Try.ntmps77
 go_wp2
 go_quiet (first | (go_at_call 78; exact Calls.quiet_of ((impl_variable.calls x a _ A7.out).mono (fun _ _ h_ => ⟨h_.1, h_.2.1⟩))) | (go_at_call 78; exact Calls.quiet_of ((impl_variable.calls n b _ A8.out).mono (fun _ _ h_ => ⟨h_.1, h_.2.1⟩))))
 go_wp2
 go_ret
 exact ⟨by first | rfl | (simp; done) | (simp [*]; done), by repeat (first | exact Drawn0.refl _ | apply Drawn0.step)⟩
def impl_isClause.idx : Nat → (Int → Option Bool) → List Int → Int → Option Int
 | 0, _, _, _ => none
 | k + 1, p, l, i => if i < (l.length : Int) then (if 0 ≤ i then ((p (rd l i)).bind fun t => (if t = true then some i else impl_isClause.idx k p l (wrap64 (i + 1)))) else none) else some (-1)
set_option maxHeartbeats 8000000 in
set_option maxRecDepth 100000 in
theorem impl_isClause.idx_calls (k : Nat) (B : Nat) (p : Int → Option Bool) (A0 : Option Addr) (c0 : Nat) (l0 : List Int) (r : Int) (w : World) (hp : ∀ (W : World) (x : Int) (v : Bool), Drawn0 w W → p x = some v → Calls Try.prog 77 #[.int .i64 x, .pointer (some ⟨B, 0, none⟩)] W fun e w' => e = .returned (.bool v) ∧ Drawn0 W w') (hr0 : Kd.C (Kd.int .i64) w A0 l0.length l0) (h : impl_isClause.idx k p l0 0 = some r) :
  Calls Try.prog 90 #[.slice A0 l0.length c0, .func (.func 77) #[] #[.pointer (some ⟨B, 0, none⟩)]] w fun e w' => e = .returned (.int .i64 r) ∧ Drawn0 w w' := by
 have HR0 := am_ hr0
 have HP := am_ hp
 clear hr0 hp
 have H' := am_ h
 clear h
 have eg := fun args w => enters_ (P := Try.prog) Try.func77 (by kernel_rfl) rfl args w
 go_enter Try.func90, Try.ntmps90
 go_wp2
 go_loopg [5, 8] k (fun kq v5 v8 w' => ∃ (x8 : Int), v8 = .int .i64 x8 ∧ Aside0 (impl_isClause.idx kq p l0 x8 = some r) ∧ Aside0 (kq ≤ k) ∧ Drawn0 w w')
 case atStart => exact ⟨0, y53_, H', ⟨Nat.le_refl _⟩, by repeat (first | exact Drawn0.refl _ | apply Drawn0.step)⟩
 case round =>
  clear H'
  try clear p2
  obtain ⟨x8, rfl, HA, HK1, ⟨m1, rfl⟩⟩ := hrel
  cases gk with
  | zero => exact absurd HA.out (by simp [impl_isClause.idx])
  | succ k1 =>
   have H := HA.out
   clear HA
   simp only [impl_isClause.idx] at H
   by_cases c4 : x8 < (l0.length : Int)
   ·rw [if_pos c4] at H
    have c4b0 : decide (x8 < (l0.length : Int)) = true := decide_eq_true c4
    by_cases c5 : 0 ≤ x8
    ·rw [if_pos c5] at H
     have c5b0 : decide (0 ≤ x8) = true := decide_eq_true c5
     obtain ⟨ad101, e101, hx101_0⟩ := Kd.at_int HR0.out x8 c5 c4
     cases e101
     have p101 := eq_true c5
     have q101 := eq_true c4
     clear c5 c4
     replace H := Option.bind_eq_some_iff.mp H
     obtain ⟨t102, A70, H⟩ := H
     have A7 := am_ A70
     clear A70
     by_cases c8 : t102 = true
     ·subst c8
      have H1 : some x8 = some r := by rw [if_pos rfl] at H; exact H
      clear H
      obtain rfl := Option.some.inj H1
      clear H1
      go_wp2_with (go_at_call 77; refine (HP.out _ (rd l0 x8) true y51_ A7.out).mono ?_; rintro e w' ⟨rfl, ⟨nd, rfl⟩⟩)
      go_ret
      exact ⟨by first | rfl | (simp; done) | (simp [*]; done), by repeat (first | exact Drawn0.refl _ | apply Drawn0.step)⟩
     ·replace c8 := Bool.eq_false_iff.mpr c8
      subst c8
      have H1 : impl_isClause.idx k1 p l0 (wrap64 (x8 + 1)) = some r := by rw [if_neg (show ¬ (false = true) by decide)] at H; exact H
      clear H
      have H' := am_ H1
      clear H1
      go_wp2_with (go_at_call 77; refine (HP.out _ (rd l0 x8) false y51_ A7.out).mono ?_; rintro e w' ⟨rfl, ⟨nd, rfl⟩⟩)
      go_roundg k1
      case measure => have := HK1.out; omega
      case rel => exact ⟨(wrap64 (x8 + 1)), y53_, H', ⟨by have := HK1.out; omega⟩, by repeat (first | exact Drawn0.refl _ | apply Drawn0.step)⟩
    ·rw [if_neg c5] at H
     exact absurd H (by simp)
   ·rw [if_neg c4] at H
    have c4b0 : decide (x8 < (l0.length : Int)) = false := decide_eq_false c4
    clear c4
    obtain rfl := Option.some.inj H
    go_wp2
    go_ret
    exact ⟨by first | rfl | (simp; done) | (simp [*]; done), by repeat (first | exact Drawn0.refl _ | apply Drawn0.step)⟩
def impl_isClause.any (k : Nat) (p : Int → Option Bool) (l : List Int) : Option Bool := (impl_isClause.idx k p l 0).bind fun t => some (decide (t ≥ 0))
set_option maxHeartbeats 8000000 in
set_option maxRecDepth 100000 in
theorem impl_isClause.any_calls (k : Nat) (B : Nat) (p : Int → Option Bool) (A0 : Option Addr) (c0 n0 : Nat) (l0 : List Int) (r : Bool) (w : World) (hp : ∀ (W : World) (x : Int) (v : Bool), Drawn0 w W → p x = some v → Calls Try.prog 77 #[.int .i64 x, .pointer (some ⟨B, 0, none⟩)] W fun e w' => e = .returned (.bool v) ∧ Drawn0 W w') (hr0 : Kd.C (Kd.int .i64) w A0 n0 l0) (h : impl_isClause.any k p l0 = some r) :
  Calls Try.prog 76 #[.slice A0 n0 c0, .func (.func 77) #[] #[.pointer (some ⟨B, 0, none⟩)]] w fun e w' => e = .returned (.bool r) ∧ Drawn0 w w' := by
 obtain rfl : n0 = l0.length := (Kd.C_len hr0).symm
 have HR0 := am_ hr0
 have HP := am_ hp
 clear hr0 hp
 obtain ⟨t, A70, H⟩ := Option.bind_eq_some_iff.mp h
 obtain rfl := Option.some.inj H
 have A7 := am_ A70
 clear A70 H h
 go_enter Try.func76, Try.ntmps76
 have eg := fun args w => enters_ (P := Try.prog) Try.func90 (by kernel_rfl) rfl args w
 go_wp2_with (go_at_call 90; refine (impl_isClause.idx_calls k B p A0 c0 l0 t _ HP.out HR0.out A7.out).mono ?_; rintro e w' ⟨rfl, ⟨nd, rfl⟩⟩)
 go_ret
 exact ⟨by first | rfl | (simp; done) | (simp [*]; done), by repeat (first | exact Drawn0.refl _ | apply Drawn0.step)⟩
def impl_isClause.l0 : Nat → List Int → Int → Int → Option Bool
 | 0, _, _, _ => none
 | k + 1, c, vars, i => if i < (c.length : Int) then (if 0 ≤ i then ((impl_isLiteral.f (rd c i) vars).bind fun t => (if t = true then ((impl_isClause.any k (impl_isClause.np (rd c i)) (c.take i.toNat)).bind fun u => (if u = true then some false else impl_isClause.l0 k c vars (wrap64 (i + 1)))) else some false)) else none) else some (decide ((c.length : Int) ≤ 12))
def impl_isClause.f (k : Nat) (l0 : List Int) (a1 : Int) : Option Bool := impl_isClause.l0 k l0 a1 0
set_option maxHeartbeats 8000000 in
set_option maxRecDepth 100000 in
theorem impl_isClause.calls (k : Nat) (A0 : Option Addr) (c0 : Nat) (l0 : List Int) (a1 : Int) (r : Bool) (w : World) (hr0 : Kd.C (Kd.int .i64) w A0 l0.length l0) (hc0 : l0.length ≤ c0) (h : impl_isClause.f k l0 a1 = some r) :
  Calls Try.prog 59 #[.slice A0 l0.length c0, .int .i64 a1] w fun e w' => e = .returned (.bool r) ∧ Below w.heap.size w w' := by
 have HR0 := am_ hr0
 have HC0 := am_ hc0
 have HB := am_ (Below.refl w.heap.size w)
 clear hr0 hc0
 unfold impl_isClause.f at h
 have H' := am_ h
 clear h
 go_enter Try.func59, Try.ntmps59
 go_wp2
 go_loopg [9] k (fun kq v9 w' => ∃ (x : Int), v9 = .int .i64 x ∧ Aside0 (impl_isClause.l0 kq l0 a1 x = some r) ∧ Aside0 (kq ≤ k) ∧ Aside0 (Below w.heap.size w w'))
 case atStart => exact ⟨0, y53_, H', ⟨Nat.le_refl _⟩, ⟨(bq_)⟩⟩
 case round =>
  clear H' HB
  obtain ⟨x, rfl, HA, HK1, HB⟩ := hrel
  cases gk with
  | zero => exact absurd HA.out (by simp [impl_isClause.l0])
  | succ k1 =>
   have H := HA.out
   clear HA
   simp only [impl_isClause.l0] at H
   by_cases c6 : x < (l0.length : Int)
   ·rw [if_pos c6] at H
    have c6b0 : decide (x < (l0.length : Int)) = true := decide_eq_true c6
    by_cases c7 : 0 ≤ x
    ·rw [if_pos c7] at H
     obtain ⟨ad, e195, hx195_0⟩ := Kd.at_int (Kd.C_below HR0.out HB.out) x c7 c6
     cases e195
     have p102 := eq_true c7
     have q102 := eq_true c6
     have HL := am_ (show x.toNat ≤ l0.length from by omega)
     have q19 : (x : Int) ≤ ((l0.length : Int) : Int) := by omega
     obtain ⟨i019, hi019, _, hsz19, _⟩ := info_parts info3
     have hcut19 := cut_to (P := Try.prog) 43 3 .i64 Try.underlying43 hi019 (some ad) l0.length c0 x c7 q19 HC0.out
     clear c6 c7 hi019 hsz19
     replace q19 := eq_true q19
     obtain ⟨t, A70, H⟩ := Option.bind_eq_some_iff.mp H
     have A7 := am_ A70
     clear A70
     have eg1 := fun args w => enters_ (P := Try.prog) Try.func75 (by kernel_rfl) rfl args w
     have eg2 := fun args w => enters_ (P := Try.prog) Try.func76 (by kernel_rfl) rfl args w
     by_cases c8 : t = true
     ·subst c8
      rw [if_pos rfl] at H
      obtain ⟨u, A80, H⟩ := Option.bind_eq_some_iff.mp H
      have A8 := am_ A80
      clear A80
      by_cases c9 : u = true
      ·subst c9
       rw [if_pos rfl] at H
       obtain rfl := Option.some.inj H
       clear H
       go_wp2_with (first | ((with_reducible refine gate_dst (N := 6) rfl ?_); refine boxq_ (N := 6) (cs := #[.int .i64 0]) (t := 3) ?_; intro gb hg w27 hbox hb; have BK := am_ hbox; have GE1 := am_ (show w.heap.size ≤ gb from by rw [hg]; exact below_size (bq_)); replace HB := bs_ hb; clear hg hbox hb; have hcz0 := cq_ BK.out 0 (.int .i64 0); have hfz0 := blk_frozen BK.out 0) | ((with_reducible refine gate_store (t := 3) (p := 6) rfl ?_); refine store_event (t := 3) (p := 6) (v := ?vo_w29) (w1 := (w27.setCell ⟨gb, 0, none⟩ (.int .i64 (rd l0 x)))) ?hg ?ho ?hn ?hr ?_; (case ho => rfl); (case hg => rfl); (case hn => rfl); (case hr => first | (go_simp; done) | (go_simp; rfl)); intro w29 hw; replace HB := am_ (show Below w.heap.size w w29 from by rw [hw]; exact below_set HB.out GE1.out); replace BK : Aside0 (w29.heap[gb]? = some (.cells #[.int .i64 (rd l0 x)] 3 (0, 0))) := ⟨by rw [hw]; refine blk_put (cs := #[.int .i64 0]) ?_ 0 _ rfl; exact BK.out⟩; clear hw hcz0 hfz0; have hcz0 := cq_ BK.out 0 (.int .i64 (rd l0 x)); have hfz0 := blk_frozen BK.out 0) | (go_at_call 75; refine (impl_isLiteral.calls (rd l0 x) a1 true _ A7.out).mono ?_; rintro e w' ⟨rfl, ⟨nd, rfl⟩⟩) | (go_at_call 76; refine (impl_isClause.any_calls k1 gb (impl_isClause.np (rd l0 x)) (some ad) c0 x.toNat (l0.take x.toNat) true _ (fun W y v hW hv => impl_isClause.np_calls (rd l0 x) gb y v W (impl_isClause.cl_drawn (by repeat (first | exact hcz0 | apply impl_isClause.cl_drewN)) hW) hv) (by (with_reducible repeat (first | apply Kd.C_alloc | apply Kd.C_drewN | apply Kd.C_drew)); have n_ := Kd.C_take (m := x.toNat) (Kd.C_below HR0.out HB.out) HL.out; rw [List.length_take, Nat.min_eq_left HL.out] at n_; exact n_) A8.out).mono ?_; rintro e w' ⟨rfl, ⟨nd2, rfl⟩⟩))
       go_ret
       exact ⟨by first | rfl | (simp; done) | (simp [*]; done), (bq_)⟩
      ·replace c9 := Bool.eq_false_iff.mpr c9
       subst c9
       rw [if_neg (by simp)] at H
       have H' := am_ H
       clear H
       go_wp2_with (first | ((with_reducible refine gate_dst (N := 6) rfl ?_); refine boxq_ (N := 6) (cs := #[.int .i64 0]) (t := 3) ?_; intro gb hg w27 hbox hb; have BK := am_ hbox; have GE1 := am_ (show w.heap.size ≤ gb from by rw [hg]; exact below_size (bq_)); replace HB := bs_ hb; clear hg hbox hb; have hcz0 := cq_ BK.out 0 (.int .i64 0); have hfz0 := blk_frozen BK.out 0) | ((with_reducible refine gate_store (t := 3) (p := 6) rfl ?_); refine store_event (t := 3) (p := 6) (v := ?vo_w29) (w1 := (w27.setCell ⟨gb, 0, none⟩ (.int .i64 (rd l0 x)))) ?hg ?ho ?hn ?hr ?_; (case ho => rfl); (case hg => rfl); (case hn => rfl); (case hr => first | (go_simp; done) | (go_simp; rfl)); intro w29 hw; replace HB := am_ (show Below w.heap.size w w29 from by rw [hw]; exact below_set HB.out GE1.out); replace BK : Aside0 (w29.heap[gb]? = some (.cells #[.int .i64 (rd l0 x)] 3 (0, 0))) := ⟨by rw [hw]; refine blk_put (cs := #[.int .i64 0]) ?_ 0 _ rfl; exact BK.out⟩; clear hw hcz0 hfz0; have hcz0 := cq_ BK.out 0 (.int .i64 (rd l0 x)); have hfz0 := blk_frozen BK.out 0) | (go_at_call 75; refine (impl_isLiteral.calls (rd l0 x) a1 true _ A7.out).mono ?_; rintro e w' ⟨rfl, ⟨nd, rfl⟩⟩) | (go_at_call 76; refine (impl_isClause.any_calls k1 gb (impl_isClause.np (rd l0 x)) (some ad) c0 x.toNat (l0.take x.toNat) false _ (fun W y v hW hv => impl_isClause.np_calls (rd l0 x) gb y v W (impl_isClause.cl_drawn (by repeat (first | exact hcz0 | apply impl_isClause.cl_drewN)) hW) hv) (by (with_reducible repeat (first | apply Kd.C_alloc | apply Kd.C_drewN | apply Kd.C_drew)); have n_ := Kd.C_take (m := x.toNat) (Kd.C_below HR0.out HB.out) HL.out; rw [List.length_take, Nat.min_eq_left HL.out] at n_; exact n_) A8.out).mono ?_; rintro e w' ⟨rfl, ⟨nd2, rfl⟩⟩))
       go_roundg k1
       case measure => have := HK1.out; omega
       case rel => exact ⟨(wrap64 (x + 1)), y53_, H', ⟨by have := HK1.out; omega⟩, ⟨(bq_)⟩⟩
     ·replace c8 := Bool.eq_false_iff.mpr c8
      subst c8
      rw [if_neg (by simp)] at H
      obtain rfl := Option.some.inj H
      clear H
      go_wp2_with (first | ((with_reducible refine gate_dst (N := 6) rfl ?_); refine boxq_ (N := 6) (cs := #[.int .i64 0]) (t := 3) ?_; intro gb hg w27 hbox hb; have BK := am_ hbox; have GE1 := am_ (show w.heap.size ≤ gb from by rw [hg]; exact below_size (bq_)); replace HB := bs_ hb; clear hg hbox hb; have hcz0 := cq_ BK.out 0 (.int .i64 0); have hfz0 := blk_frozen BK.out 0) | ((with_reducible refine gate_store (t := 3) (p := 6) rfl ?_); refine store_event (t := 3) (p := 6) (v := ?vo_w29) (w1 := (w27.setCell ⟨gb, 0, none⟩ (.int .i64 (rd l0 x)))) ?hg ?ho ?hn ?hr ?_; (case ho => rfl); (case hg => rfl); (case hn => rfl); (case hr => first | (go_simp; done) | (go_simp; rfl)); intro w29 hw; replace HB := am_ (show Below w.heap.size w w29 from by rw [hw]; exact below_set HB.out GE1.out); replace BK : Aside0 (w29.heap[gb]? = some (.cells #[.int .i64 (rd l0 x)] 3 (0, 0))) := ⟨by rw [hw]; refine blk_put (cs := #[.int .i64 0]) ?_ 0 _ rfl; exact BK.out⟩; clear hw hcz0 hfz0; have hcz0 := cq_ BK.out 0 (.int .i64 (rd l0 x)); have hfz0 := blk_frozen BK.out 0) | (go_at_call 75; refine (impl_isLiteral.calls (rd l0 x) a1 false _ A7.out).mono ?_; rintro e w' ⟨rfl, ⟨nd, rfl⟩⟩))
      go_ret
      exact ⟨by first | rfl | (simp; done) | (simp [*]; done), (bq_)⟩
    ·rw [if_neg c7] at H; cases H
   ·rw [if_neg c6] at H
    have c6b0 : decide (x < (l0.length : Int)) = false := decide_eq_false c6
    clear c6
    obtain rfl := Option.some.inj H
    clear H
    go_wp2
    go_ret
    exact ⟨by first | rfl | (simp; done) | (simp [*]; done), (bq_)⟩
def impl_areClauses.idx : Nat → (List Int → Option Bool) → List (List Int) → Int → Option Int
 | 0, _, _, _ => none
 | k + 1, p, l, i => if i < (l.length : Int) then (if 0 ≤ i then ((p (rd_L2 l i)).bind fun t => (if t = true then some i else impl_areClauses.idx k p l (wrap64 (i + 1)))) else none) else some (-1)
set_option maxHeartbeats 8000000 in
set_option maxRecDepth 100000 in
theorem impl_areClauses.idx_calls (k : Nat) (B : Nat) (p : List Int → Option Bool) (A0 : Option Addr) (c0 : Nat) (l0 : List (List Int)) (r : Int) (w : World) (hp : ∀ (W : World) (A : Option Addr) (c : Nat) (x : List Int) (v : Bool), Below w.heap.size w W → Kd.C (Kd.int .i64) W A x.length x → x.length ≤ c → p x = some v → Calls Try.prog 89 #[.slice A x.length c, .pointer (some ⟨B, 0, none⟩)] W fun e w' => e = .returned (.bool v) ∧ Below W.heap.size W w') (hr0 : Kd.C (Kd.slice 3 (Kd.int .i64)) w A0 l0.length l0) (h : impl_areClauses.idx k p l0 0 = some r) :
  Calls Try.prog 96 #[.slice A0 l0.length c0, .func (.func 89) #[] #[.pointer (some ⟨B, 0, none⟩)]] w fun e w' => e = .returned (.int .i64 r) ∧ Below w.heap.size w w' := by
 have HR0 := am_ hr0
 have HP := am_ hp
 have HB := am_ (Below.refl w.heap.size w)
 clear hr0 hp
 have H' := am_ h
 clear h
 have eg := fun args w => enters_ (P := Try.prog) Try.func89 (by kernel_rfl) rfl args w
 go_enter Try.func96, Try.ntmps96
 go_wp2
 go_loopg [5, 8] k (fun kq v5 v8 w' => ∃ (x8 : Int), v8 = .int .i64 x8 ∧ Aside0 (impl_areClauses.idx kq p l0 x8 = some r) ∧ Aside0 (kq ≤ k) ∧ Aside0 (Below w.heap.size w w'))
 case atStart => exact ⟨0, y53_, H', ⟨Nat.le_refl _⟩, ⟨(bq_)⟩⟩
 case round =>
  clear H' HB
  try clear p2
  obtain ⟨x8, rfl, HA, HK1, HB⟩ := hrel
  cases gk with
  | zero => exact absurd HA.out (by simp [impl_areClauses.idx])
  | succ k1 =>
   have H := HA.out
   clear HA
   simp only [impl_areClauses.idx] at H
   by_cases c4 : x8 < (l0.length : Int)
   ·rw [if_pos c4] at H
    have c4b0 : decide (x8 < (l0.length : Int)) = true := decide_eq_true c4
    by_cases c5 : 0 ≤ x8
    ·rw [if_pos c5] at H
     have c5b0 : decide (0 ≤ x8) = true := decide_eq_true c5
     obtain ⟨ad101, A1, c1, e101, hx101_0, hl1, hi1⟩ := at_L2 (Kd.C_below HR0.out HB.out) x8 c5 c4
     cases e101
     have p101 := eq_true c5
     have q101 := eq_true c4
     have HI := am_ hi1
     have HL1 := am_ hl1
     clear c5 c4 hi1 hl1
     replace H := Option.bind_eq_some_iff.mp H
     obtain ⟨t102, A70, H⟩ := H
     have A7 := am_ A70
     clear A70
     by_cases c8 : t102 = true
     ·subst c8
      have H1 : some x8 = some r := by rw [if_pos rfl] at H; exact H
      clear H
      obtain rfl := Option.some.inj H1
      clear H1
      go_wp2_with (go_at_call 89; refine (HP.out _ A1 c1 (rd_L2 l0 x8) true (bq_) (cm_ HI.out) HL1.out A7.out).mono ?_; rintro e w' ⟨rfl, hb⟩; replace HB := bs_ hb; clear hb)
      go_ret
      exact ⟨by first | rfl | (simp; done) | (simp [*]; done), (bq_)⟩
     ·replace c8 := Bool.eq_false_iff.mpr c8
      subst c8
      have H1 : impl_areClauses.idx k1 p l0 (wrap64 (x8 + 1)) = some r := by rw [if_neg (show ¬ (false = true) by decide)] at H; exact H
      clear H
      have H' := am_ H1
      clear H1
      go_wp2_with (go_at_call 89; refine (HP.out _ A1 c1 (rd_L2 l0 x8) false (bq_) (cm_ HI.out) HL1.out A7.out).mono ?_; rintro e w' ⟨rfl, hb⟩; replace HB := bs_ hb; clear hb)
      go_roundg k1
      case measure => have := HK1.out; omega
      case rel => exact ⟨(wrap64 (x8 + 1)), y53_, H', ⟨by have := HK1.out; omega⟩, ⟨(bq_)⟩⟩
    ·rw [if_neg c5] at H
     exact absurd H (by simp)
   ·rw [if_neg c4] at H
    have c4b0 : decide (x8 < (l0.length : Int)) = false := decide_eq_false c4
    clear c4
    obtain rfl := Option.some.inj H
    go_wp2
    go_ret
    exact ⟨by first | rfl | (simp; done) | (simp [*]; done), (bq_)⟩
def impl_areClauses.any (k : Nat) (p : List Int → Option Bool) (l : List (List Int)) : Option Bool := (impl_areClauses.idx k p l 0).bind fun t => some (decide (t ≥ 0))
set_option maxHeartbeats 8000000 in
set_option maxRecDepth 100000 in
theorem impl_areClauses.any_calls (k : Nat) (B : Nat) (p : List Int → Option Bool) (A0 : Option Addr) (c0 : Nat) (l0 : List (List Int)) (r : Bool) (w : World) (hp : ∀ (W : World) (A : Option Addr) (c : Nat) (x : List Int) (v : Bool), Below w.heap.size w W → Kd.C (Kd.int .i64) W A x.length x → x.length ≤ c → p x = some v → Calls Try.prog 89 #[.slice A x.length c, .pointer (some ⟨B, 0, none⟩)] W fun e w' => e = .returned (.bool v) ∧ Below W.heap.size W w') (hr0 : Kd.C (Kd.slice 3 (Kd.int .i64)) w A0 l0.length l0) (h : impl_areClauses.any k p l0 = some r) :
  Calls Try.prog 88 #[.slice A0 l0.length c0, .func (.func 89) #[] #[.pointer (some ⟨B, 0, none⟩)]] w fun e w' => e = .returned (.bool r) ∧ Below w.heap.size w w' := by
 have HR0 := am_ hr0
 have HP := am_ hp
 clear hr0 hp
 obtain ⟨t, A70, H⟩ := Option.bind_eq_some_iff.mp h
 obtain rfl := Option.some.inj H
 have A7 := am_ A70
 clear A70 H h
 go_enter Try.func88, Try.ntmps88
 have eg := fun args w => enters_ (P := Try.prog) Try.func96 (by kernel_rfl) rfl args w
 go_wp2_with (go_at_call 96; refine (impl_areClauses.idx_calls k B p A0 c0 l0 t _ HP.out HR0.out A7.out).mono ?_; rintro e w' ⟨rfl, hb⟩; have HB := am_ hb; clear hb)
 go_ret
 exact ⟨by first | rfl | (simp; done) | (simp [*]; done), (bq_)⟩
def impl_areClauses.np (k : Nat) (n : Int) (x : List Int) : Option Bool := (impl_isClause.f k x n).bind fun a => some (!a)
set_option maxHeartbeats 8000000 in
set_option maxRecDepth 100000 in
theorem impl_areClauses.np_calls (k : Nat) (n : Int) (B : Nat) (A : Option Addr) (c : Nat) (x : List Int) (r : Bool) (w : World) (hcl : w.cell? ⟨B, 0, none⟩ = some (.int .i64 n)) (hr : Kd.C (Kd.int .i64) w A x.length x) (hc : x.length ≤ c) (h : impl_areClauses.np k n x = some r) :
  Calls Try.prog 89 #[.slice A x.length c, .pointer (some ⟨B, 0, none⟩)] w fun e w' => e = .returned (.bool r) ∧ Below w.heap.size w w' := by
 obtain ⟨a, A70, H⟩ := Option.bind_eq_some_iff.mp h
 obtain rfl := Option.some.inj H
 have A7 := am_ A70
 have HR := am_ hr
 have HC := am_ hc
 clear A70 H h hr hc
 have eg := fun args w => enters_ (P := Try.prog) Try.func59 (by kernel_rfl) rfl args w
 go_enter Try.func89, Try.ntmps89
 go_wp2_with (go_at_call 59; refine (impl_isClause.calls k A c x n a _ (cm_ HR.out) HC.out A7.out).mono ?_; rintro e w' ⟨rfl, hb⟩; have HB := am_ (below_step (by repeat (first | exact Below.refl _ _ | apply below_alloc | apply pw_below_drewN | apply below_drew1)) hb); clear hb)
 go_ret
 exact ⟨by first | rfl | (simp; done) | (simp [*]; done), (bq_)⟩
def impl_areClauses.f (k : Nat) (l0 : List (List Int)) (a1 : Int) : Option Bool := (impl_areClauses.any k (impl_areClauses.np k a1) l0).bind fun t => some (!t)
set_option maxHeartbeats 8000000 in
set_option maxRecDepth 100000 in
theorem impl_areClauses.calls (k : Nat) (A0 : Option Addr) (c0 : Nat) (l0 : List (List Int)) (a1 : Int) (r : Bool) (w : World) (hr0 : Kd.C (Kd.slice 3 (Kd.int .i64)) w A0 l0.length l0) (hc0 : l0.length ≤ c0) (h : impl_areClauses.f k l0 a1 = some r) :
  Calls Try.prog 74 #[.slice A0 l0.length c0, .int .i64 a1] w fun e w' => e = .returned (.bool r) ∧ Below w.heap.size w w' := by
 have HR0 := am_ hr0
 have HB := am_ (Below.refl w.heap.size w)
 clear hr0 hc0
 obtain ⟨a, A70, H⟩ := Option.bind_eq_some_iff.mp h
 obtain rfl := Option.some.inj H
 have A7 := am_ A70
 clear A70 H h
 have eg := fun args w => enters_ (P := Try.prog) Try.func88 (by kernel_rfl) rfl args w
 go_enter Try.func74, Try.ntmps74
 go_wp2_with (first | ((with_reducible refine gate_dst (N := 3) rfl ?_); refine boxq_ (N := 3) (cs := #[.int .i64 a1]) (t := 3) ?_; intro gb hg w27 hbox hb; have BK := am_ hbox; replace HB := bs_ hb; clear hg hbox hb; have hcz0 := cq_ BK.out 0 (.int .i64 a1)) | (go_at_call 88; refine (impl_areClauses.any_calls k gb (impl_areClauses.np k a1) A0 c0 l0 a _ (fun W A c x v hW hC hc hv => impl_areClauses.np_calls k a1 gb A c x v W ((hW.cell (World.block_lt_of_cell? _ _ hcz0)).trans hcz0) hC hc hv) (Kd.C_below HR0.out (bq_)) A7.out).mono ?_; rintro e w' ⟨rfl, hb⟩; replace HB := bs_ hb; clear hb))
 go_ret
 exact ⟨by first | rfl | (simp; done) | (simp [*]; done), (bq_)⟩
def impl_GoodClauses.f (k : Nat) (a0 : Int) (l1 : List (List Int)) : Option (Bool) := (impl_in.f a0 0 12).bind fun t453 => (if t453 = true then (if (l1.length : Int) ≤ 60 then ((impl_areClauses.f k l1 a0).bind fun t454 => (some t454)) else (some false)) else (some false))
set_option maxHeartbeats 8000000 in
set_option maxRecDepth 100000 in
theorem impl_GoodClauses.calls (k : Nat) (a0 : Int) (A1 : Option Addr) (c1 : Nat) (l1 : List (List Int)) (r : Bool) (w : World) (hr1 : Kd.C (Kd.slice 3 (Kd.int .i64)) w A1 l1.length l1) (hc1 : l1.length ≤ c1) (h : impl_GoodClauses.f k a0 l1 = some r) :
  Calls Try.prog 58 #[.int .i64 a0, .slice A1 l1.length c1] w fun e w' => e = .returned (.bool r) ∧ Below w.heap.size w w' := by
 have HR1 := am_ hr1
 have HC1 := am_ hc1
 clear hr1 hc1
 have HB := am_ (Below.refl w.heap.size w)
 have H : ((impl_in.f a0 0 12).bind fun t453 => (if t453 = true then (if (l1.length : Int) ≤ 60 then ((impl_areClauses.f k l1 a0).bind fun t454 => (some t454)) else (some false)) else (some false))) = some r := h
 clear h
 replace H := Option.bind_eq_some_iff.mp H
 obtain ⟨t453, A30, H⟩ := H
 replace H : (if t453 = true then (if (l1.length : Int) ≤ 60 then ((impl_areClauses.f k l1 a0).bind fun t454 => (some t454)) else (some false)) else (some false)) = some r := H
 have A3 := am_ A30
 clear A30
 by_cases c4 : t453 = true
 ·subst c4
  have H1 : (if (l1.length : Int) ≤ 60 then ((impl_areClauses.f k l1 a0).bind fun t454 => (some t454)) else (some false)) = some r := by rw [if_pos rfl] at H; exact H
  clear H
  have H := H1
  clear H1
  by_cases c5 : (l1.length : Int) ≤ 60
  ·rw [if_pos c5] at H
   have c5b0 : decide ((l1.length : Int) ≤ 60) = true := decide_eq_true c5
   have c5b1 : decide (l1.length ≤ 60) = true := decide_eq_true (by omega)
   clear c5
   replace H := Option.bind_eq_some_iff.mp H
   obtain ⟨t454, A60, H⟩ := H
   replace H : (some t454) = some r := H
   have A6 := am_ A60
   clear A60
   obtain rfl := Option.some.inj H
   go_enter Try.func58, Try.ntmps58
   go_wp2_with (first | ((with_reducible refine gl_ 44 rfl ?_); refine goesM_ (some 6) Try.func44 #[.int .i64 a0, .int .i64 0, .int .i64 12] ?_; (with_reducible refine (impl_in.calls a0 0 12 true _ A3.out).mono ?_); rintro e w' ⟨rfl, ⟨nd, rfl⟩⟩; refine ⟨_, rfl, ?_⟩) | (go_at_call 74; (with_reducible refine (impl_areClauses.calls k _ _ l1 a0 t454 _ ?side1 ?side2 A6.out).mono ?_); (case side1 => exact cm_ HR1.out); (case side2 => exact HC1.out); rintro e w7 ⟨rfl, hb⟩; replace HB := bs_ hb; (try clear hb)))
   go_ret
   exact ⟨by first | rfl | (simp [errW_none, errW_some] <;> rfl) | (simp [*, errW_none, errW_some] <;> rfl), bq_⟩
  ·rw [if_neg c5] at H
   have c5b0 : decide ((l1.length : Int) ≤ 60) = false := decide_eq_false c5
   have c5b1 : decide (l1.length ≤ 60) = false := decide_eq_false (by omega)
   clear c5
   obtain rfl := Option.some.inj H
   go_enter Try.func58, Try.ntmps58
   go_wp2_with (first | ((with_reducible refine gl_ 44 rfl ?_); refine goesM_ (some 6) Try.func44 #[.int .i64 a0, .int .i64 0, .int .i64 12] ?_; (with_reducible refine (impl_in.calls a0 0 12 true _ A3.out).mono ?_); rintro e w' ⟨rfl, ⟨nd, rfl⟩⟩; refine ⟨_, rfl, ?_⟩))
   go_ret
   exact ⟨by first | rfl | (simp [errW_none, errW_some] <;> rfl) | (simp [*, errW_none, errW_some] <;> rfl), bq_⟩
 ·replace c4 := Bool.eq_false_iff.mpr c4
  subst c4
  have H1 : (some false) = some r := by rw [if_neg (show ¬ (false = true) by decide)] at H; exact H
  clear H
  have H := H1
  clear H1
  obtain rfl := Option.some.inj H
  go_enter Try.func58, Try.ntmps58
  go_wp2_with (first | ((with_reducible refine gl_ 44 rfl ?_); refine goesM_ (some 6) Try.func44 #[.int .i64 a0, .int .i64 0, .int .i64 12] ?_; (with_reducible refine (impl_in.calls a0 0 12 false _ A3.out).mono ?_); rintro e w' ⟨rfl, ⟨nd, rfl⟩⟩; refine ⟨_, rfl, ?_⟩))
  go_ret
  exact ⟨by first | rfl | (simp [errW_none, errW_some] <;> rfl) | (simp [*, errW_none, errW_some] <;> rfl), bq_⟩
def slices_Clone_int_int.f (_k : Nat) (l0 : List Int) : Option (List Int) := if l0.length ≤ 1099511627776 then some l0 else none
set_option maxHeartbeats 8000000 in
set_option maxRecDepth 100000 in
theorem slices_Clone_int_int.calls (k : Nat) (A0 : Option Addr) (c0 : Nat) (l0 : List Int) (r : List Int) (w : World) (hr0 : Kd.C (Kd.int .i64) w A0 l0.length l0) (hc0 : l0.length ≤ c0) (h : slices_Clone_int_int.f k l0 = some r) :
  Calls Try.prog 79 #[.slice A0 l0.length c0] w fun e w' => ∃ v0_ : Value, e = .returned (v0_) ∧ Kd.R (Kd.int .i64) 3 w' w.heap.size (fun _ => True) v0_ r ∧ Below w.heap.size w w' := by
 have HR0 := am_ hr0
 unfold slices_Clone_int_int.f at h
 by_cases hl : l0.length ≤ 1099511627776
 ·rw [if_pos hl] at h
  obtain rfl := Option.some.inj h
  have HL := am_ hl
  clear hl h
  cases A0 with
  | none =>
   have e0 : l0 = [] := by
    cases l0 with
    | nil => rfl
    | cons a t => exact absurd (hr0.2.2 (by simp)) (by rintro ⟨_, h_, _⟩; cases h_)
   subst e0
   clear hr0 hc0
   have he : ∀ w : World, (binOp .eql 43 (.slice none 0 c0) (.slice none 0 0)).run Try.prog w = .ok (.bool true) w := fun _ => rfl
   go_enter Try.func79, Try.ntmps79
   go_wp2
   go_ret
   exact ⟨_, by first | rfl | (simp; done) | (simp [*]; done), Kd.R_nil _ _ _ _ _, by repeat (first | exact Below.refl _ _ | apply below_alloc | apply pw_below_drewN | apply below_drew1)⟩
  | some a0 =>
   clear hr0
   have HC0 := am_ hc0
   clear hc0
   have he : ∀ w : World, (binOp .eql 43 (.slice (some a0) l0.length c0) (.slice none 0 0)).run Try.prog w = .ok (.bool false) w := fun _ => rfl
   go_enter Try.func79, Try.ntmps79
   go_wp2_with (first | ((with_reducible refine gate_dst (N := 5) rfl ?_); refine Kd.R_lit (Kd.int .i64) _ 3 ?hg (N := 5) ?hd (xs := ([] : List Int)) (inner := []) (ok := fun _ => True) (okp := fun _ => True) ?hr ?hp (fun _ hk => hk) trivial (Below.refl _ _) (Nat.le_refl _) (by simp) ?_; (case hd => rfl); (case hg => rfl); (case hr => first | (go_simp; done) | (go_simp; rfl)); (case hp => exact (Reps.none _ _)); intro v5 w8 ho hb hg_ hnew_; clear hg_ hnew_; have HO := am_ ho; have HB := am_ hb; clear ho hb) | ((with_reducible refine gate_builtin (b := .append) (xs := #[.tmp 5, .tmp 6]) rfl ?_); at_builtin; refine Kd.R_append_rows (Kd.int .i64) (w0 := w) w.heap.size rfl (.tmp 5) (.tmp 6) 43 3 (.int .i64 0) 8 rfl Try.underlying43 info3 rfl (by decide) (by omega) v5 [] l0 _ _ _ (fun _ => True) (fun _ => False) rfl rfl ?aO ?aR (fun _ _ h => h) (fun _ h => h.elim) ?aF ?aB ?aS ?aL ?_; (case aR => exact Kd.C_below HR0.out (bq_)); (case aB => exact (bq_)); (case aF => exact (fun _ _ => trivial)); (case aO => exact HO.out); (case aS => exact (below_size (bq_))); (case aL => have := HL.out; simp only [List.length_nil]; omega); intro v62 w9 ho hb hg hat; rw [List.nil_append] at ho; replace HO := am_ ho; replace HB := am_ hb; clear ho hb hg hat))
   go_ret
   exact ⟨_, by first | rfl | (simp; done) | (simp [*]; done), HO.out, HB.out⟩
 ·rw [if_neg hl] at h
  exact absurd h (by simp)
theorem impl_meets.cl_drewN {w : World} {p : Addr} {v : Value} (h : w.cell? p = some v) (n : Nat) : (w.drewN n).cell? p = some v := (Below.cell (pw_below_drewN (Below.refl (p.block + 1) w) n) (Nat.lt_succ_self _)).trans h
theorem impl_meets.cl_drawn {w W : World} {p : Addr} {v : Value} (h : w.cell? p = some v) (hd : Drawn0 w W) : W.cell? p = some v := by
 obtain ⟨m, rfl⟩ := hd
 exact impl_meets.cl_drewN h m
theorem impl_meets.w1 (i : Nat) (h : i < 4611686018427387904) : wrap64 ((i : Int) + 1) = ((i + 1 : Nat) : Int) := by unfold wrap64; omega
theorem impl_meets.has (m : List Int) (x : Int) (hm : m.length ≤ 1099511627776) : ∀ d i, i + d = m.length → ∃ t, slices_Index_int_int.l0 (d + 1) m x (m.length : Int) (i : Int) = some t ∧ decide (t ≥ 0) = (m.drop i).contains x
 | 0, i, h => ⟨-1, by rw [slices_Index_int_int.l0, if_neg (by omega)], by rw [List.drop_eq_nil_of_le (by omega)]; rfl⟩
 | d + 1, i, h => by
  have hi : i < m.length := by omega
  have er : rd m (i : Int) = m[i] := by unfold rd; rw [Int.toNat_natCast, List.getD_eq_getElem?_getD, List.getElem?_eq_getElem hi]; rfl
  obtain ⟨t, h1, h2⟩ := impl_meets.has m x hm d (i + 1) (by omega)
  rw [slices_Index_int_int.l0, if_pos (by omega), if_pos (by omega), if_pos (by omega), er, impl_meets.w1 i (by omega), List.drop_eq_getElem_cons hi, List.contains_cons]
  by_cases c : x = m[i]
  ·rw [if_pos c]
   exact ⟨_, rfl, by rw [decide_eq_true (by omega), beq_iff_eq.mpr c]; rfl⟩
  ·rw [if_neg c]
   exact ⟨t, h1, by rw [h2, beq_eq_false_iff_ne.mpr c]; rfl⟩
theorem impl_meets.has_ (m : List Int) (x : Int) (hm : m.length ≤ 1099511627776) : slices_Contains_int_int.f (m.length + 1) m x = some (m.contains x) := by
 obtain ⟨t, h1, h2⟩ := impl_meets.has m x hm m.length 0 (by omega)
 unfold slices_Contains_int_int.f slices_Index_int_int.f
 rw [show ((0 : Nat) : Int) = 0 from rfl] at h1
 rw [List.drop_zero] at h2
 rw [h1, Option.bind_some, h2]
set_option maxHeartbeats 8000000 in
set_option maxRecDepth 100000 in
theorem impl_meets.np_calls (A : Option Addr) (c : Nat) (m : List Int) (B : Nat) (x : Int) (w : World) (hcl : w.cell? ⟨B, 0, none⟩ = some (.slice A m.length c)) (hc : m.length ≤ c) (hl : m.length ≤ 1099511627776) (hm : Kd.C (Kd.int .i64) w A m.length m) :
  Calls Try.prog 91 #[.int .i64 x, .pointer (some ⟨B, 0, none⟩)] w fun e w' => e = .returned (.bool (m.contains x)) ∧ Drawn0 w w' := by
 have A7 := am_ (impl_meets.has_ m x hl)
 have HM := am_ hm
 have HC := am_ hc
 clear hm hc hl
 generalize m.contains x = v at A7 ⊢
 have eg := fun args w => enters_ (P := Try.prog) Try.func87 (by kernel_rfl) rfl args w
 go_enter Try.func91, Try.ntmps91
 go_wp2_with (go_at_call 87; refine (slices_Contains_int_int.calls (m.length + 1) _ _ m x v _ (cm_ HM.out) HC.out A7.out).mono ?_; rintro e w' ⟨rfl, ⟨nd, rfl⟩⟩)
 go_ret
 exact ⟨by first | rfl | (simp; done) | (simp [*]; done), by repeat (first | exact Drawn0.refl _ | apply Drawn0.step)⟩
def impl_meets.idx : Nat → (Int → Option Bool) → List Int → Int → Option Int
 | 0, _, _, _ => none
 | k + 1, p, l, i => if i < (l.length : Int) then (if 0 ≤ i then ((p (rd l i)).bind fun t => (if t = true then some i else impl_meets.idx k p l (wrap64 (i + 1)))) else none) else some (-1)
set_option maxHeartbeats 8000000 in
set_option maxRecDepth 100000 in
theorem impl_meets.idx_calls (k : Nat) (B : Nat) (p : Int → Option Bool) (A0 : Option Addr) (c0 : Nat) (l0 : List Int) (r : Int) (w : World) (hp : ∀ (W : World) (x : Int) (v : Bool), Drawn0 w W → p x = some v → Calls Try.prog 91 #[.int .i64 x, .pointer (some ⟨B, 0, none⟩)] W fun e w' => e = .returned (.bool v) ∧ Drawn0 W w') (hr0 : Kd.C (Kd.int .i64) w A0 l0.length l0) (h : impl_meets.idx k p l0 0 = some r) :
  Calls Try.prog 90 #[.slice A0 l0.length c0, .func (.func 91) #[] #[.pointer (some ⟨B, 0, none⟩)]] w fun e w' => e = .returned (.int .i64 r) ∧ Drawn0 w w' := by
 have HR0 := am_ hr0
 have HP := am_ hp
 clear hr0 hp
 have H' := am_ h
 clear h
 have eg := fun args w => enters_ (P := Try.prog) Try.func91 (by kernel_rfl) rfl args w
 go_enter Try.func90, Try.ntmps90
 go_wp2
 go_loopg [5, 8] k (fun kq v5 v8 w' => ∃ (x8 : Int), v8 = .int .i64 x8 ∧ Aside0 (impl_meets.idx kq p l0 x8 = some r) ∧ Aside0 (kq ≤ k) ∧ Drawn0 w w')
 case atStart => exact ⟨0, y53_, H', ⟨Nat.le_refl _⟩, by repeat (first | exact Drawn0.refl _ | apply Drawn0.step)⟩
 case round =>
  clear H'
  try clear p2
  obtain ⟨x8, rfl, HA, HK1, ⟨m1, rfl⟩⟩ := hrel
  cases gk with
  | zero => exact absurd HA.out (by simp [impl_meets.idx])
  | succ k1 =>
   have H := HA.out
   clear HA
   simp only [impl_meets.idx] at H
   by_cases c4 : x8 < (l0.length : Int)
   ·rw [if_pos c4] at H
    have c4b0 : decide (x8 < (l0.length : Int)) = true := decide_eq_true c4
    by_cases c5 : 0 ≤ x8
    ·rw [if_pos c5] at H
     have c5b0 : decide (0 ≤ x8) = true := decide_eq_true c5
     obtain ⟨ad101, e101, hx101_0⟩ := Kd.at_int HR0.out x8 c5 c4
     cases e101
     have p101 := eq_true c5
     have q101 := eq_true c4
     clear c5 c4
     replace H := Option.bind_eq_some_iff.mp H
     obtain ⟨t102, A70, H⟩ := H
     have A7 := am_ A70
     clear A70
     by_cases c8 : t102 = true
     ·subst c8
      have H1 : some x8 = some r := by rw [if_pos rfl] at H; exact H
      clear H
      obtain rfl := Option.some.inj H1
      clear H1
      go_wp2_with (go_at_call 91; refine (HP.out _ (rd l0 x8) true y51_ A7.out).mono ?_; rintro e w' ⟨rfl, ⟨nd, rfl⟩⟩)
      go_ret
      exact ⟨by first | rfl | (simp; done) | (simp [*]; done), by repeat (first | exact Drawn0.refl _ | apply Drawn0.step)⟩
     ·replace c8 := Bool.eq_false_iff.mpr c8
      subst c8
      have H1 : impl_meets.idx k1 p l0 (wrap64 (x8 + 1)) = some r := by rw [if_neg (show ¬ (false = true) by decide)] at H; exact H
      clear H
      have H' := am_ H1
      clear H1
      go_wp2_with (go_at_call 91; refine (HP.out _ (rd l0 x8) false y51_ A7.out).mono ?_; rintro e w' ⟨rfl, ⟨nd, rfl⟩⟩)
      go_roundg k1
      case measure => have := HK1.out; omega
      case rel => exact ⟨(wrap64 (x8 + 1)), y53_, H', ⟨by have := HK1.out; omega⟩, by repeat (first | exact Drawn0.refl _ | apply Drawn0.step)⟩
    ·rw [if_neg c5] at H
     exact absurd H (by simp)
   ·rw [if_neg c4] at H
    have c4b0 : decide (x8 < (l0.length : Int)) = false := decide_eq_false c4
    clear c4
    obtain rfl := Option.some.inj H
    go_wp2
    go_ret
    exact ⟨by first | rfl | (simp; done) | (simp [*]; done), by repeat (first | exact Drawn0.refl _ | apply Drawn0.step)⟩
def impl_meets.any (k : Nat) (p : Int → Option Bool) (l : List Int) : Option Bool := (impl_meets.idx k p l 0).bind fun t => some (decide (t ≥ 0))
set_option maxHeartbeats 8000000 in
set_option maxRecDepth 100000 in
theorem impl_meets.any_calls (k : Nat) (B : Nat) (p : Int → Option Bool) (A0 : Option Addr) (c0 n0 : Nat) (l0 : List Int) (r : Bool) (w : World) (hp : ∀ (W : World) (x : Int) (v : Bool), Drawn0 w W → p x = some v → Calls Try.prog 91 #[.int .i64 x, .pointer (some ⟨B, 0, none⟩)] W fun e w' => e = .returned (.bool v) ∧ Drawn0 W w') (hr0 : Kd.C (Kd.int .i64) w A0 n0 l0) (h : impl_meets.any k p l0 = some r) :
  Calls Try.prog 76 #[.slice A0 n0 c0, .func (.func 91) #[] #[.pointer (some ⟨B, 0, none⟩)]] w fun e w' => e = .returned (.bool r) ∧ Drawn0 w w' := by
 obtain rfl : n0 = l0.length := (Kd.C_len hr0).symm
 have HR0 := am_ hr0
 have HP := am_ hp
 clear hr0 hp
 obtain ⟨t, A70, H⟩ := Option.bind_eq_some_iff.mp h
 obtain rfl := Option.some.inj H
 have A7 := am_ A70
 clear A70 H h
 go_enter Try.func76, Try.ntmps76
 have eg := fun args w => enters_ (P := Try.prog) Try.func90 (by kernel_rfl) rfl args w
 go_wp2_with (go_at_call 90; refine (impl_meets.idx_calls k B p A0 c0 l0 t _ HP.out HR0.out A7.out).mono ?_; rintro e w' ⟨rfl, ⟨nd, rfl⟩⟩)
 go_ret
 exact ⟨by first | rfl | (simp; done) | (simp [*]; done), by repeat (first | exact Drawn0.refl _ | apply Drawn0.step)⟩
theorem impl_meets.any_ (p : Int → Bool) (l : List Int) (hl : l.length ≤ 1099511627776) : ∀ d i, i + d = l.length → ∃ t, impl_meets.idx (d + 1) (fun x => some (p x)) l (i : Int) = some t ∧ decide (t ≥ 0) = (l.drop i).any p
 | 0, i, h => ⟨-1, by rw [impl_meets.idx, if_neg (by omega)], by rw [List.drop_eq_nil_of_le (by omega)]; rfl⟩
 | d + 1, i, h => by
  have hi : i < l.length := by omega
  have er : rd l (i : Int) = l[i] := by unfold rd; rw [Int.toNat_natCast, List.getD_eq_getElem?_getD, List.getElem?_eq_getElem hi]; rfl
  obtain ⟨t, h1, h2⟩ := impl_meets.any_ p l hl d (i + 1) (by omega)
  rw [impl_meets.idx, if_pos (by omega), if_pos (by omega), er, impl_meets.w1 i (by omega), List.drop_eq_getElem_cons hi, List.any_cons, Option.bind_some]
  cases c : p l[i] with
  | true => exact ⟨_, rfl, by rw [decide_eq_true (by omega)]; rfl⟩
  | false => exact ⟨t, h1, by rw [h2]; rfl⟩
theorem impl_meets.anyv (p : Int → Bool) (l : List Int) (hl : l.length ≤ 1099511627776) : impl_meets.any (l.length + 1) (fun x => some (p x)) l = some (l.any p) := by
 obtain ⟨t, h1, h2⟩ := impl_meets.any_ p l hl l.length 0 (by omega)
 unfold impl_meets.any
 rw [show ((0 : Nat) : Int) = 0 from rfl] at h1
 rw [List.drop_zero] at h2
 rw [h1, Option.bind_some, h2]
def impl_meets.f (l0 l1 : List Int) : Option Bool := if l0.length ≤ 1099511627776 ∧ l1.length ≤ 1099511627776 then some (l0.any l1.contains) else none
set_option maxHeartbeats 8000000 in
set_option maxRecDepth 100000 in
theorem impl_meets.calls (A0 : Option Addr) (c0 : Nat) (l0 : List Int) (A1 : Option Addr) (c1 : Nat) (l1 : List Int) (r : Bool) (w : World) (hr0 : Kd.C (Kd.int .i64) w A0 l0.length l0) (hc0 : l0.length ≤ c0) (hr1 : Kd.C (Kd.int .i64) w A1 l1.length l1) (hc1 : l1.length ≤ c1) (h : impl_meets.f l0 l1 = some r) :
  Calls Try.prog 80 #[.slice A0 l0.length c0, .slice A1 l1.length c1] w fun e w' => e = .returned (.bool r) ∧ Below w.heap.size w w' := by
 unfold impl_meets.f at h
 by_cases hl : l0.length ≤ 1099511627776 ∧ l1.length ≤ 1099511627776
 ·rw [if_pos hl] at h
  obtain rfl := Option.some.inj h
  have A8 := am_ (impl_meets.anyv l1.contains l0 hl.1)
  have HL := am_ hl
  have HR0 := am_ hr0
  have HR1 := am_ hr1
  have HC1 := am_ hc1
  have HB := am_ (Below.refl w.heap.size w)
  clear hr0 hc0 hr1 hc1 h hl
  have eg := fun args w => enters_ (P := Try.prog) Try.func76 (by kernel_rfl) rfl args w
  go_enter Try.func80, Try.ntmps80
  go_wp2_with (first | ((with_reducible refine gate_dst (N := 3) rfl ?_); refine boxq_ (N := 3) (cs := #[.slice A1 l1.length c1]) (t := 43) ?_; intro gb hg w27 hbox hb; have BK := am_ hbox; replace HB := bs_ hb; clear hg hbox hb; have hcz0 := cq_ BK.out 0 (.slice A1 l1.length c1)) | (go_at_call 76; refine (impl_meets.any_calls (l0.length + 1) gb (fun x => some (l1.contains x)) A0 c0 l0.length l0 (l0.any l1.contains) _ (fun W y v hW hv => by obtain rfl := Option.some.inj hv; exact impl_meets.np_calls A1 c1 l1 gb y W (impl_meets.cl_drawn (by repeat (first | exact hcz0 | apply impl_meets.cl_drewN)) hW) HC1.out HL.out.2 (Kd.C_below (Kd.C_below HR1.out (bq_)) hW.below)) (Kd.C_below HR0.out (bq_)) A8.out).mono ?_; rintro e w' ⟨rfl, ⟨nd2, rfl⟩⟩))
  go_ret
  exact ⟨by first | rfl | (simp; done) | (simp [*]; done), (bq_)⟩
 ·rw [if_neg hl] at h
  cases h
end Go.Proofs.Ytgahidilhjijiaa.PGG
