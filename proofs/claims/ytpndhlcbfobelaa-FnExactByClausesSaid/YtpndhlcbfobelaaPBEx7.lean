import Derived.Test.YtpndhlcbfobelaaPBEx0
import Derived.Test.YtpndhlcbfobelaaPBEx6
namespace Go.Proofs.Ytpndhlcbfobelaa.PBE
open Go.RowKit Go.Proofs.YtpndhlcbfobelaaW.PrintWords Go.Proofs.YtpndhlcbfobelaaW.PrintLast Go.Proofs.YtpndhlcbfobelaaW.PrintMore
attribute [local go_sem] max2_int min2_int max_two min_two max_three min_three max_four min_four   -- for this text's walks alone
set_option linter.unusedVariables false
set_option linter.unusedSimpArgs false
def impl_variable.f (a0 : Int) : Option Int := some (if a0 < wrap64 (-a0) then wrap64 (-a0) else a0)
set_option maxHeartbeats 8000000 in
set_option maxRecDepth 100000 in
theorem impl_variable.calls (a0 : Int) (r : Int) (w : World) (h : impl_variable.f a0 = some r) :
    Calls Try.prog 98 #[.int .i64 a0] w fun e w' => e = .returned (.int .i64 r) ∧ Drawn0 w w' := by
  obtain rfl := Option.some.inj h
  clear h
  go_enter Try.func98, Try.ntmps98
  go_wp2
  all_goals go_ret
  all_goals exact ⟨by first | rfl | (simp; done) | (simp [*]; done), by repeat (first | exact Drawn0.refl _ | apply Drawn0.step)⟩
def impl_isLiteral.f (a0 a1 : Int) : Option Bool := if a0 = 0 then some false else impl_in.f a0 (wrap64 (-a1)) a1
set_option maxHeartbeats 8000000 in
set_option maxRecDepth 100000 in
theorem impl_isLiteral.calls (a0 a1 : Int) (r : Bool) (w : World) (h : impl_isLiteral.f a0 a1 = some r) :
    Calls Try.prog 116 #[.int .i64 a0, .int .i64 a1] w fun e w' => e = .returned (.bool r) ∧ Drawn0 w w' := by
  unfold impl_isLiteral.f at h
  by_cases c : a0 = 0
  · rw [if_pos c] at h
    obtain rfl := Option.some.inj h
    have c1 : (a0 != 0) = false := bne_eq_false_iff_eq.mpr c
    have c2 : (a0 == 0) = true := beq_iff_eq.mpr c
    clear h c
    go_enter Try.func116, Try.ntmps116
    go_wp2
    go_ret
    exact ⟨by first | rfl | (simp; done) | (simp [*]; done), by repeat (first | exact Drawn0.refl _ | apply Drawn0.step)⟩
  · rw [if_neg c] at h
    have A7 := Aside0.mk h
    have c1 : (a0 != 0) = true := bne_iff_ne.mpr c
    have c2 : (a0 == 0) = false := beq_eq_false_iff_ne.mpr c
    clear h c
    go_enter Try.func116, Try.ntmps116
    have eg := fun args w => enters_ (P := Try.prog) Try.func68 (by kernel_rfl) rfl args w
    go_wp2_with (go_at_call 68; refine (impl_in.calls a0 (wrap64 (-a1)) a1 r _ A7.out).mono ?_; rintro e w' ⟨rfl, ⟨nd, rfl⟩⟩)
    go_ret
    exact ⟨by first | rfl | (simp; done) | (simp [*]; done), by repeat (first | exact Drawn0.refl _ | apply Drawn0.step)⟩
theorem impl_isClause.cl_drewN {w : World} {p : Addr} {v : Value} (h : w.cell? p = some v) (n : Nat) : (w.drewN n).cell? p = some v := (Below.cell (pw_below_drewN (Below.refl (p.block + 1) w) n) (Nat.lt_succ_self _)).trans h
theorem impl_isClause.cl_drawn {w W : World} {p : Addr} {v : Value} (h : w.cell? p = some v) (hd : Drawn0 w W) : W.cell? p = some v := by
  obtain ⟨m, rfl⟩ := hd
  exact impl_isClause.cl_drewN h m
def impl_isClause.np (n x : Int) : Option Bool := (impl_variable.f x).bind fun a => (impl_variable.f n).bind fun b => some (a == b)
set_option maxHeartbeats 8000000 in
set_option maxRecDepth 100000 in
theorem impl_isClause.np_calls (n : Int) (B : Nat) (x : Int) (r : Bool) (w : World) (hcl : w.cell? ⟨B, 0, none⟩ = some (.int .i64 n)) (h : impl_isClause.np n x = some r) :
    Calls Try.prog 117 #[.int .i64 x, .pointer (some ⟨B, 0, none⟩)] w fun e w' => e = .returned (.bool r) ∧ Drawn0 w w' := by
  obtain ⟨a, A70, H⟩ := Option.bind_eq_some_iff.mp h
  obtain ⟨b, A80, H⟩ := Option.bind_eq_some_iff.mp H
  obtain rfl := Option.some.inj H
  have A7 := Aside0.mk A70
  have A8 := Aside0.mk A80
  clear A70 A80 H h
  go_enter Try.func117, Try.ntmps117
  go_wp2
  go_quiet (first | (go_at_call 98; exact Calls.quiet_of ((impl_variable.calls x a _ A7.out).mono (fun _ _ h_ => ⟨h_.1, h_.2.1⟩))) | (go_at_call 98; exact Calls.quiet_of ((impl_variable.calls n b _ A8.out).mono (fun _ _ h_ => ⟨h_.1, h_.2.1⟩))))
  go_wp2
  go_ret
  exact ⟨by first | rfl | (simp; done) | (simp [*]; done), by repeat (first | exact Drawn0.refl _ | apply Drawn0.step)⟩
def impl_isClause.idx : Nat → (Int → Option Bool) → List Int → Int → Option Int
  | 0, _, _, _ => none
  | k + 1, p, l, i => if i < (l.length : Int) then (if 0 ≤ i then ((p (rd l i)).bind fun t => (if t = true then some i else impl_isClause.idx k p l (wrap64 (i + 1)))) else none) else some (-1)
set_option maxHeartbeats 8000000 in
set_option maxRecDepth 100000 in
theorem impl_isClause.idx_calls (k : Nat) (B : Nat) (p : Int → Option Bool) (A0 : Option Addr) (c0 : Nat) (l0 : List Int) (r : Int) (w : World) (hp : ∀ (W : World) (x : Int) (v : Bool), Drawn0 w W → p x = some v → Calls Try.prog 117 #[.int .i64 x, .pointer (some ⟨B, 0, none⟩)] W fun e w' => e = .returned (.bool v) ∧ Drawn0 W w') (hr0 : Kd.C (Kd.int .i64) w A0 l0.length l0) (h : impl_isClause.idx k p l0 0 = some r) :
    Calls Try.prog 108 #[.slice A0 l0.length c0, .func (.func 117) #[] #[.pointer (some ⟨B, 0, none⟩)]] w fun e w' => e = .returned (.int .i64 r) ∧ Drawn0 w w' := by
  have HR0 := Aside0.mk hr0
  have HP := Aside0.mk hp
  clear hr0 hp
  have H' := Aside0.mk h
  clear h
  have eg := fun args w => enters_ (P := Try.prog) Try.func117 (by kernel_rfl) rfl args w
  go_enter Try.func108, Try.ntmps108
  go_wp2
  go_loopg [5, 8] k (fun kq v5 v8 w' => ∃ (x8 : Int), v8 = .int .i64 x8 ∧ Aside0 (impl_isClause.idx kq p l0 x8 = some r) ∧ Aside0 (kq ≤ k) ∧ Drawn0 w w')
  case atStart => exact ⟨0, (by first | rfl | (simp; done) | (simp [*]; done)), H', ⟨Nat.le_refl _⟩, by repeat (first | exact Drawn0.refl _ | apply Drawn0.step)⟩
  case round =>
    clear H'
    try clear p2
    obtain ⟨x8, rfl, HA, HK1, ⟨m1, rfl⟩⟩ := hrel
    cases gk with
    | zero => exact absurd HA.out (by simp [impl_isClause.idx])
    | succ k1 =>
      have H := HA.out
      clear HA
      simp only [impl_isClause.idx] at H
      by_cases c4 : x8 < (l0.length : Int)
      · rw [if_pos c4] at H
        have c4b0 : decide (x8 < (l0.length : Int)) = true := decide_eq_true c4
        by_cases c5 : 0 ≤ x8
        · rw [if_pos c5] at H
          have c5b0 : decide (0 ≤ x8) = true := decide_eq_true c5
          obtain ⟨ad101, e101, hx101_0⟩ := Kd.at_int HR0.out x8 c5 c4
          cases e101
          have p101 := eq_true c5
          have q101 := eq_true c4
          clear c5 c4
          replace H := Option.bind_eq_some_iff.mp H
          obtain ⟨t102, A70, H⟩ := H
          have A7 := Aside0.mk A70
          clear A70
          by_cases c8 : t102 = true
          · subst c8
            have H1 : some x8 = some r := by rw [if_pos rfl] at H; exact H
            clear H
            obtain rfl := Option.some.inj H1
            clear H1
            go_wp2_with (go_at_call 117; refine (HP.out _ (rd l0 x8) true (by repeat (first | exact Drawn0.refl _ | apply Drawn0.step)) A7.out).mono ?_; rintro e w' ⟨rfl, ⟨nd, rfl⟩⟩)
            go_ret
            exact ⟨by first | rfl | (simp; done) | (simp [*]; done), by repeat (first | exact Drawn0.refl _ | apply Drawn0.step)⟩
          · replace c8 := Bool.eq_false_iff.mpr c8
            subst c8
            have H1 : impl_isClause.idx k1 p l0 (wrap64 (x8 + 1)) = some r := by rw [if_neg (show ¬ (false = true) by decide)] at H; exact H
            clear H
            have H' := Aside0.mk H1
            clear H1
            go_wp2_with (go_at_call 117; refine (HP.out _ (rd l0 x8) false (by repeat (first | exact Drawn0.refl _ | apply Drawn0.step)) A7.out).mono ?_; rintro e w' ⟨rfl, ⟨nd, rfl⟩⟩)
            go_roundg k1
            case measure => have := HK1.out; omega
            case rel => exact ⟨(wrap64 (x8 + 1)), (by first | rfl | (simp; done) | (simp [*]; done)), H', ⟨by have := HK1.out; omega⟩, by repeat (first | exact Drawn0.refl _ | apply Drawn0.step)⟩
        · rw [if_neg c5] at H
          exact absurd H (by simp)
      · rw [if_neg c4] at H
        have c4b0 : decide (x8 < (l0.length : Int)) = false := decide_eq_false c4
        clear c4
        obtain rfl := Option.some.inj H
        go_wp2
        go_ret
        exact ⟨by first | rfl | (simp; done) | (simp [*]; done), by repeat (first | exact Drawn0.refl _ | apply Drawn0.step)⟩
def impl_isClause.any (k : Nat) (p : Int → Option Bool) (l : List Int) : Option Bool := (impl_isClause.idx k p l 0).bind fun t => some (decide (t ≥ 0))
set_option maxHeartbeats 8000000 in
set_option maxRecDepth 100000 in
theorem impl_isClause.any_calls (k : Nat) (B : Nat) (p : Int → Option Bool) (A0 : Option Addr) (c0 n0 : Nat) (l0 : List Int) (r : Bool) (w : World) (hp : ∀ (W : World) (x : Int) (v : Bool), Drawn0 w W → p x = some v → Calls Try.prog 117 #[.int .i64 x, .pointer (some ⟨B, 0, none⟩)] W fun e w' => e = .returned (.bool v) ∧ Drawn0 W w') (hr0 : Kd.C (Kd.int .i64) w A0 n0 l0) (h : impl_isClause.any k p l0 = some r) :
    Calls Try.prog 96 #[.slice A0 n0 c0, .func (.func 117) #[] #[.pointer (some ⟨B, 0, none⟩)]] w fun e w' => e = .returned (.bool r) ∧ Drawn0 w w' := by
  obtain rfl : n0 = l0.length := (Kd.C_len hr0).symm
  have HR0 := Aside0.mk hr0
  have HP := Aside0.mk hp
  clear hr0 hp
  obtain ⟨t, A70, H⟩ := Option.bind_eq_some_iff.mp h
  obtain rfl := Option.some.inj H
  have A7 := Aside0.mk A70
  clear A70 H h
  go_enter Try.func96, Try.ntmps96
  have eg := fun args w => enters_ (P := Try.prog) Try.func108 (by kernel_rfl) rfl args w
  go_wp2_with (go_at_call 108; refine (impl_isClause.idx_calls k B p A0 c0 l0 t _ HP.out HR0.out A7.out).mono ?_; rintro e w' ⟨rfl, ⟨nd, rfl⟩⟩)
  go_ret
  exact ⟨by first | rfl | (simp; done) | (simp [*]; done), by repeat (first | exact Drawn0.refl _ | apply Drawn0.step)⟩
def impl_isClause.l0 : Nat → List Int → Int → Int → Option Bool
  | 0, _, _, _ => none
  | k + 1, c, vars, i => if i < (c.length : Int) then (if 0 ≤ i then ((impl_isLiteral.f (rd c i) vars).bind fun t => (if t = true then ((impl_isClause.any k (impl_isClause.np (rd c i)) (c.take i.toNat)).bind fun u => (if u = true then some false else impl_isClause.l0 k c vars (wrap64 (i + 1)))) else some false)) else none) else some (decide ((c.length : Int) ≤ 12))
def impl_isClause.f (k : Nat) (l0 : List Int) (a1 : Int) : Option Bool := impl_isClause.l0 k l0 a1 0
set_option maxHeartbeats 8000000 in
set_option maxRecDepth 100000 in
theorem impl_isClause.calls (k : Nat) (A0 : Option Addr) (c0 : Nat) (l0 : List Int) (a1 : Int) (r : Bool) (w : World) (hr0 : Kd.C (Kd.int .i64) w A0 l0.length l0) (hc0 : l0.length ≤ c0) (h : impl_isClause.f k l0 a1 = some r) :
    Calls Try.prog 107 #[.slice A0 l0.length c0, .int .i64 a1] w fun e w' => e = .returned (.bool r) ∧ Below w.heap.size w w' := by
  have HR0 := Aside0.mk hr0
  have HC0 := Aside0.mk hc0
  have HB := Aside0.mk (Below.refl w.heap.size w)
  clear hr0 hc0
  unfold impl_isClause.f at h
  have H' := Aside0.mk h
  clear h
  go_enter Try.func107, Try.ntmps107
  go_wp2
  go_loopg [9] k (fun kq v9 w' => ∃ (x : Int), v9 = .int .i64 x ∧ Aside0 (impl_isClause.l0 kq l0 a1 x = some r) ∧ Aside0 (kq ≤ k) ∧ Aside0 (Below w.heap.size w w'))
  case atStart => exact ⟨0, (by first | rfl | (simp; done) | (simp [*]; done)), H', ⟨Nat.le_refl _⟩, ⟨(bq_)⟩⟩
  case round =>
    clear H' HB
    obtain ⟨x, rfl, HA, HK1, HB⟩ := hrel
    cases gk with
    | zero => exact absurd HA.out (by simp [impl_isClause.l0])
    | succ k1 =>
      have H := HA.out
      clear HA
      simp only [impl_isClause.l0] at H
      by_cases c6 : x < (l0.length : Int)
      · rw [if_pos c6] at H
        have c6b0 : decide (x < (l0.length : Int)) = true := decide_eq_true c6
        by_cases c7 : 0 ≤ x
        · rw [if_pos c7] at H
          obtain ⟨ad, e195, hx195_0⟩ := Kd.at_int (Kd.C_below HR0.out HB.out) x c7 c6
          cases e195
          have p102 := eq_true c7
          have q102 := eq_true c6
          have HL := Aside0.mk (show x.toNat ≤ l0.length from by omega)
          have q19 : (x : Int) ≤ ((l0.length : Int) : Int) := by omega
          obtain ⟨i019, hi019, _, hsz19, _⟩ := info_parts info3
          have hcut19 := cut_to (P := Try.prog) 88 3 .i64 Try.underlying88 hi019 (some ad) l0.length c0 x c7 q19 HC0.out
          clear c6 c7 hi019 hsz19
          replace q19 := eq_true q19
          obtain ⟨t, A70, H⟩ := Option.bind_eq_some_iff.mp H
          have A7 := Aside0.mk A70
          clear A70
          have eg1 := fun args w => enters_ (P := Try.prog) Try.func116 (by kernel_rfl) rfl args w
          have eg2 := fun args w => enters_ (P := Try.prog) Try.func96 (by kernel_rfl) rfl args w
          by_cases c8 : t = true
          · subst c8
            rw [if_pos rfl] at H
            obtain ⟨u, A80, H⟩ := Option.bind_eq_some_iff.mp H
            have A8 := Aside0.mk A80
            clear A80
            by_cases c9 : u = true
            · subst c9
              rw [if_pos rfl] at H
              obtain rfl := Option.some.inj H
              clear H
              go_wp2_with (first | ((with_reducible refine gate_dst (N := 6) rfl ?_); refine boxq_ (N := 6) (cs := #[.int .i64 0]) (t := 3) ?_; intro gb hg w27 hbox hb; have BK := Aside0.mk hbox; have GE1 := Aside0.mk (show w.heap.size ≤ gb from by rw [hg]; exact below_size (bq_)); have n0_ := Aside0.mk (below_step (bq_) hb); clear HB; have HB := n0_; clear n0_ hg hbox hb; have hcz0 := cq_ BK.out 0 (.int .i64 0); have hfz0 := blk_frozen BK.out 0) | ((with_reducible refine gate_store (t := 3) (p := 6) rfl ?_); refine store_event (t := 3) (p := 6) (v := ?vo_w29) (w1 := (w27.setCell ⟨gb, 0, none⟩ (.int .i64 (rd l0 x)))) ?hg ?ho ?hn ?hr ?_; (case ho => rfl); (case hg => rfl); (case hn => rfl); (case hr => first | (go_simp; done) | (go_simp; rfl)); intro w29 hw; have n0_ := Aside0.mk (show Below w.heap.size w w29 from by rw [hw]; exact below_set HB.out GE1.out); have n1_ : Aside0 (w29.heap[gb]? = some (.cells #[.int .i64 (rd l0 x)] 3 (0, 0))) := ⟨by rw [hw]; refine blk_put (cs := #[.int .i64 0]) ?_ 0 _ rfl; exact BK.out⟩; clear hw hcz0 hfz0 BK HB; have HB := n0_; have BK := n1_; clear n0_ n1_; have hcz0 := cq_ BK.out 0 (.int .i64 (rd l0 x)); have hfz0 := blk_frozen BK.out 0) | (go_at_call 116; refine (impl_isLiteral.calls (rd l0 x) a1 true _ A7.out).mono ?_; rintro e w' ⟨rfl, ⟨nd, rfl⟩⟩) | (go_at_call 96; refine (impl_isClause.any_calls k1 gb (impl_isClause.np (rd l0 x)) (some ad) c0 x.toNat (l0.take x.toNat) true _ (fun W y v hW hv => impl_isClause.np_calls (rd l0 x) gb y v W (impl_isClause.cl_drawn (by repeat (first | exact hcz0 | apply impl_isClause.cl_drewN)) hW) hv) (by (with_reducible repeat (first | apply Kd.C_alloc | apply Kd.C_drewN | apply Kd.C_drew)); have n_ := Kd.C_take (m := x.toNat) (Kd.C_below HR0.out HB.out) HL.out; rw [List.length_take, Nat.min_eq_left HL.out] at n_; exact n_) A8.out).mono ?_; rintro e w' ⟨rfl, ⟨nd2, rfl⟩⟩))
              go_ret
              exact ⟨by first | rfl | (simp; done) | (simp [*]; done), (bq_)⟩
            · replace c9 := Bool.eq_false_iff.mpr c9
              subst c9
              rw [if_neg (by simp)] at H
              have H' := Aside0.mk H
              clear H
              go_wp2_with (first | ((with_reducible refine gate_dst (N := 6) rfl ?_); refine boxq_ (N := 6) (cs := #[.int .i64 0]) (t := 3) ?_; intro gb hg w27 hbox hb; have BK := Aside0.mk hbox; have GE1 := Aside0.mk (show w.heap.size ≤ gb from by rw [hg]; exact below_size (bq_)); have n0_ := Aside0.mk (below_step (bq_) hb); clear HB; have HB := n0_; clear n0_ hg hbox hb; have hcz0 := cq_ BK.out 0 (.int .i64 0); have hfz0 := blk_frozen BK.out 0) | ((with_reducible refine gate_store (t := 3) (p := 6) rfl ?_); refine store_event (t := 3) (p := 6) (v := ?vo_w29) (w1 := (w27.setCell ⟨gb, 0, none⟩ (.int .i64 (rd l0 x)))) ?hg ?ho ?hn ?hr ?_; (case ho => rfl); (case hg => rfl); (case hn => rfl); (case hr => first | (go_simp; done) | (go_simp; rfl)); intro w29 hw; have n0_ := Aside0.mk (show Below w.heap.size w w29 from by rw [hw]; exact below_set HB.out GE1.out); have n1_ : Aside0 (w29.heap[gb]? = some (.cells #[.int .i64 (rd l0 x)] 3 (0, 0))) := ⟨by rw [hw]; refine blk_put (cs := #[.int .i64 0]) ?_ 0 _ rfl; exact BK.out⟩; clear hw hcz0 hfz0 BK HB; have HB := n0_; have BK := n1_; clear n0_ n1_; have hcz0 := cq_ BK.out 0 (.int .i64 (rd l0 x)); have hfz0 := blk_frozen BK.out 0) | (go_at_call 116; refine (impl_isLiteral.calls (rd l0 x) a1 true _ A7.out).mono ?_; rintro e w' ⟨rfl, ⟨nd, rfl⟩⟩) | (go_at_call 96; refine (impl_isClause.any_calls k1 gb (impl_isClause.np (rd l0 x)) (some ad) c0 x.toNat (l0.take x.toNat) false _ (fun W y v hW hv => impl_isClause.np_calls (rd l0 x) gb y v W (impl_isClause.cl_drawn (by repeat (first | exact hcz0 | apply impl_isClause.cl_drewN)) hW) hv) (by (with_reducible repeat (first | apply Kd.C_alloc | apply Kd.C_drewN | apply Kd.C_drew)); have n_ := Kd.C_take (m := x.toNat) (Kd.C_below HR0.out HB.out) HL.out; rw [List.length_take, Nat.min_eq_left HL.out] at n_; exact n_) A8.out).mono ?_; rintro e w' ⟨rfl, ⟨nd2, rfl⟩⟩))
              go_roundg k1
              case measure => have := HK1.out; omega
              case rel => exact ⟨(wrap64 (x + 1)), (by first | rfl | (simp; done) | (simp [*]; done)), H', ⟨by have := HK1.out; omega⟩, ⟨(bq_)⟩⟩
          · replace c8 := Bool.eq_false_iff.mpr c8
            subst c8
            rw [if_neg (by simp)] at H
            obtain rfl := Option.some.inj H
            clear H
            go_wp2_with (first | ((with_reducible refine gate_dst (N := 6) rfl ?_); refine boxq_ (N := 6) (cs := #[.int .i64 0]) (t := 3) ?_; intro gb hg w27 hbox hb; have BK := Aside0.mk hbox; have GE1 := Aside0.mk (show w.heap.size ≤ gb from by rw [hg]; exact below_size (bq_)); have n0_ := Aside0.mk (below_step (bq_) hb); clear HB; have HB := n0_; clear n0_ hg hbox hb; have hcz0 := cq_ BK.out 0 (.int .i64 0); have hfz0 := blk_frozen BK.out 0) | ((with_reducible refine gate_store (t := 3) (p := 6) rfl ?_); refine store_event (t := 3) (p := 6) (v := ?vo_w29) (w1 := (w27.setCell ⟨gb, 0, none⟩ (.int .i64 (rd l0 x)))) ?hg ?ho ?hn ?hr ?_; (case ho => rfl); (case hg => rfl); (case hn => rfl); (case hr => first | (go_simp; done) | (go_simp; rfl)); intro w29 hw; have n0_ := Aside0.mk (show Below w.heap.size w w29 from by rw [hw]; exact below_set HB.out GE1.out); have n1_ : Aside0 (w29.heap[gb]? = some (.cells #[.int .i64 (rd l0 x)] 3 (0, 0))) := ⟨by rw [hw]; refine blk_put (cs := #[.int .i64 0]) ?_ 0 _ rfl; exact BK.out⟩; clear hw hcz0 hfz0 BK HB; have HB := n0_; have BK := n1_; clear n0_ n1_; have hcz0 := cq_ BK.out 0 (.int .i64 (rd l0 x)); have hfz0 := blk_frozen BK.out 0) | (go_at_call 116; refine (impl_isLiteral.calls (rd l0 x) a1 false _ A7.out).mono ?_; rintro e w' ⟨rfl, ⟨nd, rfl⟩⟩))
            go_ret
            exact ⟨by first | rfl | (simp; done) | (simp [*]; done), (bq_)⟩
        · rw [if_neg c7] at H; cases H
      · rw [if_neg c6] at H
        have c6b0 : decide (x < (l0.length : Int)) = false := decide_eq_false c6
        clear c6
        obtain rfl := Option.some.inj H
        clear H
        go_wp2
        go_ret
        exact ⟨by first | rfl | (simp; done) | (simp [*]; done), (bq_)⟩
def impl_areClauses.idx : Nat → (List Int → Option Bool) → List (List Int) → Int → Option Int
  | 0, _, _, _ => none
  | k + 1, p, l, i => if i < (l.length : Int) then (if 0 ≤ i then ((p (rd_L2 l i)).bind fun t => (if t = true then some i else impl_areClauses.idx k p l (wrap64 (i + 1)))) else none) else some (-1)
set_option maxHeartbeats 8000000 in
set_option maxRecDepth 100000 in
theorem impl_areClauses.idx_calls (k : Nat) (B : Nat) (p : List Int → Option Bool) (A0 : Option Addr) (c0 : Nat) (l0 : List (List Int)) (r : Int) (w : World) (hp : ∀ (W : World) (A : Option Addr) (c : Nat) (x : List Int) (v : Bool), Below w.heap.size w W → Kd.C (Kd.int .i64) W A x.length x → x.length ≤ c → p x = some v → Calls Try.prog 106 #[.slice A x.length c, .pointer (some ⟨B, 0, none⟩)] W fun e w' => e = .returned (.bool v) ∧ Below W.heap.size W w') (hr0 : Kd.C (Kd.slice 3 (Kd.int .i64)) w A0 l0.length l0) (h : impl_areClauses.idx k p l0 0 = some r) :
    Calls Try.prog 115 #[.slice A0 l0.length c0, .func (.func 106) #[] #[.pointer (some ⟨B, 0, none⟩)]] w fun e w' => e = .returned (.int .i64 r) ∧ Below w.heap.size w w' := by
  have HR0 := Aside0.mk hr0
  have HP := Aside0.mk hp
  have HB := Aside0.mk (Below.refl w.heap.size w)
  clear hr0 hp
  have H' := Aside0.mk h
  clear h
  have eg := fun args w => enters_ (P := Try.prog) Try.func106 (by kernel_rfl) rfl args w
  go_enter Try.func115, Try.ntmps115
  go_wp2
  go_loopg [5, 8] k (fun kq v5 v8 w' => ∃ (x8 : Int), v8 = .int .i64 x8 ∧ Aside0 (impl_areClauses.idx kq p l0 x8 = some r) ∧ Aside0 (kq ≤ k) ∧ Aside0 (Below w.heap.size w w'))
  case atStart => exact ⟨0, (by first | rfl | (simp; done) | (simp [*]; done)), H', ⟨Nat.le_refl _⟩, ⟨(bq_)⟩⟩
  case round =>
    clear H' HB
    try clear p2
    obtain ⟨x8, rfl, HA, HK1, HB⟩ := hrel
    cases gk with
    | zero => exact absurd HA.out (by simp [impl_areClauses.idx])
    | succ k1 =>
      have H := HA.out
      clear HA
      simp only [impl_areClauses.idx] at H
      by_cases c4 : x8 < (l0.length : Int)
      · rw [if_pos c4] at H
        have c4b0 : decide (x8 < (l0.length : Int)) = true := decide_eq_true c4
        by_cases c5 : 0 ≤ x8
        · rw [if_pos c5] at H
          have c5b0 : decide (0 ≤ x8) = true := decide_eq_true c5
          obtain ⟨ad101, A1, c1, e101, hx101_0, hl1, hi1⟩ := at_L2 (Kd.C_below HR0.out HB.out) x8 c5 c4
          cases e101
          have p101 := eq_true c5
          have q101 := eq_true c4
          have HI := Aside0.mk hi1
          have HL1 := Aside0.mk hl1
          clear c5 c4 hi1 hl1
          replace H := Option.bind_eq_some_iff.mp H
          obtain ⟨t102, A70, H⟩ := H
          have A7 := Aside0.mk A70
          clear A70
          by_cases c8 : t102 = true
          · subst c8
            have H1 : some x8 = some r := by rw [if_pos rfl] at H; exact H
            clear H
            obtain rfl := Option.some.inj H1
            clear H1
            go_wp2_with (go_at_call 106; refine (HP.out _ A1 c1 (rd_L2 l0 x8) true (bq_) (by (with_reducible repeat (first | apply Kd.C_alloc | apply Kd.C_drewN | apply Kd.C_drew)); exact HI.out) HL1.out A7.out).mono ?_; rintro e w' ⟨rfl, hb⟩; have n0_ := Aside0.mk (below_step (bq_) hb); clear HB hb; have HB := n0_; clear n0_)
            go_ret
            exact ⟨by first | rfl | (simp; done) | (simp [*]; done), (bq_)⟩
          · replace c8 := Bool.eq_false_iff.mpr c8
            subst c8
            have H1 : impl_areClauses.idx k1 p l0 (wrap64 (x8 + 1)) = some r := by rw [if_neg (show ¬ (false = true) by decide)] at H; exact H
            clear H
            have H' := Aside0.mk H1
            clear H1
            go_wp2_with (go_at_call 106; refine (HP.out _ A1 c1 (rd_L2 l0 x8) false (bq_) (by (with_reducible repeat (first | apply Kd.C_alloc | apply Kd.C_drewN | apply Kd.C_drew)); exact HI.out) HL1.out A7.out).mono ?_; rintro e w' ⟨rfl, hb⟩; have n0_ := Aside0.mk (below_step (bq_) hb); clear HB hb; have HB := n0_; clear n0_)
            go_roundg k1
            case measure => have := HK1.out; omega
            case rel => exact ⟨(wrap64 (x8 + 1)), (by first | rfl | (simp; done) | (simp [*]; done)), H', ⟨by have := HK1.out; omega⟩, ⟨(bq_)⟩⟩
        · rw [if_neg c5] at H
          exact absurd H (by simp)
      · rw [if_neg c4] at H
        have c4b0 : decide (x8 < (l0.length : Int)) = false := decide_eq_false c4
        clear c4
        obtain rfl := Option.some.inj H
        go_wp2
        go_ret
        exact ⟨by first | rfl | (simp; done) | (simp [*]; done), (bq_)⟩
def impl_areClauses.any (k : Nat) (p : List Int → Option Bool) (l : List (List Int)) : Option Bool := (impl_areClauses.idx k p l 0).bind fun t => some (decide (t ≥ 0))
set_option maxHeartbeats 8000000 in
set_option maxRecDepth 100000 in
theorem impl_areClauses.any_calls (k : Nat) (B : Nat) (p : List Int → Option Bool) (A0 : Option Addr) (c0 : Nat) (l0 : List (List Int)) (r : Bool) (w : World) (hp : ∀ (W : World) (A : Option Addr) (c : Nat) (x : List Int) (v : Bool), Below w.heap.size w W → Kd.C (Kd.int .i64) W A x.length x → x.length ≤ c → p x = some v → Calls Try.prog 106 #[.slice A x.length c, .pointer (some ⟨B, 0, none⟩)] W fun e w' => e = .returned (.bool v) ∧ Below W.heap.size W w') (hr0 : Kd.C (Kd.slice 3 (Kd.int .i64)) w A0 l0.length l0) (h : impl_areClauses.any k p l0 = some r) :
    Calls Try.prog 105 #[.slice A0 l0.length c0, .func (.func 106) #[] #[.pointer (some ⟨B, 0, none⟩)]] w fun e w' => e = .returned (.bool r) ∧ Below w.heap.size w w' := by
  have HR0 := Aside0.mk hr0
  have HP := Aside0.mk hp
  clear hr0 hp
  obtain ⟨t, A70, H⟩ := Option.bind_eq_some_iff.mp h
  obtain rfl := Option.some.inj H
  have A7 := Aside0.mk A70
  clear A70 H h
  go_enter Try.func105, Try.ntmps105
  have eg := fun args w => enters_ (P := Try.prog) Try.func115 (by kernel_rfl) rfl args w
  go_wp2_with (go_at_call 115; refine (impl_areClauses.idx_calls k B p A0 c0 l0 t _ HP.out HR0.out A7.out).mono ?_; rintro e w' ⟨rfl, hb⟩; have HB := Aside0.mk hb; clear hb)
  go_ret
  exact ⟨by first | rfl | (simp; done) | (simp [*]; done), (bq_)⟩
def impl_areClauses.np (k : Nat) (n : Int) (x : List Int) : Option Bool := (impl_isClause.f k x n).bind fun a => some (!a)
set_option maxHeartbeats 8000000 in
set_option maxRecDepth 100000 in
theorem impl_areClauses.np_calls (k : Nat) (n : Int) (B : Nat) (A : Option Addr) (c : Nat) (x : List Int) (r : Bool) (w : World) (hcl : w.cell? ⟨B, 0, none⟩ = some (.int .i64 n)) (hr : Kd.C (Kd.int .i64) w A x.length x) (hc : x.length ≤ c) (h : impl_areClauses.np k n x = some r) :
    Calls Try.prog 106 #[.slice A x.length c, .pointer (some ⟨B, 0, none⟩)] w fun e w' => e = .returned (.bool r) ∧ Below w.heap.size w w' := by
  obtain ⟨a, A70, H⟩ := Option.bind_eq_some_iff.mp h
  obtain rfl := Option.some.inj H
  have A7 := Aside0.mk A70
  have HR := Aside0.mk hr
  have HC := Aside0.mk hc
  clear A70 H h hr hc
  have eg := fun args w => enters_ (P := Try.prog) Try.func107 (by kernel_rfl) rfl args w
  go_enter Try.func106, Try.ntmps106
  go_wp2_with (go_at_call 107; refine (impl_isClause.calls k A c x n a _ (by (with_reducible repeat (first | apply Kd.C_alloc | apply Kd.C_drewN | apply Kd.C_drew)); exact HR.out) HC.out A7.out).mono ?_; rintro e w' ⟨rfl, hb⟩; have HB := Aside0.mk (below_step (by repeat (first | exact Below.refl _ _ | apply below_alloc | apply pw_below_drewN | apply below_drew1)) hb); clear hb)
  go_ret
  exact ⟨by first | rfl | (simp; done) | (simp [*]; done), (bq_)⟩
def impl_areClauses.f (k : Nat) (l0 : List (List Int)) (a1 : Int) : Option Bool := (impl_areClauses.any k (impl_areClauses.np k a1) l0).bind fun t => some (!t)
set_option maxHeartbeats 8000000 in
set_option maxRecDepth 100000 in
theorem impl_areClauses.calls (k : Nat) (A0 : Option Addr) (c0 : Nat) (l0 : List (List Int)) (a1 : Int) (r : Bool) (w : World) (hr0 : Kd.C (Kd.slice 3 (Kd.int .i64)) w A0 l0.length l0) (hc0 : l0.length ≤ c0) (h : impl_areClauses.f k l0 a1 = some r) :
    Calls Try.prog 95 #[.slice A0 l0.length c0, .int .i64 a1] w fun e w' => e = .returned (.bool r) ∧ Below w.heap.size w w' := by
  have HR0 := Aside0.mk hr0
  have HB := Aside0.mk (Below.refl w.heap.size w)
  clear hr0 hc0
  obtain ⟨a, A70, H⟩ := Option.bind_eq_some_iff.mp h
  obtain rfl := Option.some.inj H
  have A7 := Aside0.mk A70
  clear A70 H h
  have eg := fun args w => enters_ (P := Try.prog) Try.func105 (by kernel_rfl) rfl args w
  go_enter Try.func95, Try.ntmps95
  go_wp2_with (first | ((with_reducible refine gate_dst (N := 3) rfl ?_); refine boxq_ (N := 3) (cs := #[.int .i64 a1]) (t := 3) ?_; intro gb hg w27 hbox hb; have BK := Aside0.mk hbox; have n0_ := Aside0.mk (below_step (bq_) hb); clear HB; have HB := n0_; clear n0_ hg hbox hb; have hcz0 := cq_ BK.out 0 (.int .i64 a1)) | (go_at_call 105; refine (impl_areClauses.any_calls k gb (impl_areClauses.np k a1) A0 c0 l0 a _ (fun W A c x v hW hC hc hv => impl_areClauses.np_calls k a1 gb A c x v W ((hW.cell (World.block_lt_of_cell? _ _ hcz0)).trans hcz0) hC hc hv) (Kd.C_below HR0.out (bq_)) A7.out).mono ?_; rintro e w' ⟨rfl, hb⟩; have n0_ := Aside0.mk (below_step (bq_) hb); clear HB hb; have HB := n0_; clear n0_))
  go_ret
  exact ⟨by first | rfl | (simp; done) | (simp [*]; done), (bq_)⟩
def impl_GoodClauses.f (k : Nat) (a0 : Int) (l1 : List (List Int)) : Option (Bool) := (impl_in.f a0 0 12).bind fun t179 => (if t179 = true then (if (l1.length : Int) ≤ 60 then ((impl_areClauses.f k l1 a0).bind fun t180 => (some t180)) else (some false)) else (some false))
set_option maxHeartbeats 8000000 in
set_option maxRecDepth 100000 in
theorem impl_GoodClauses.calls (k : Nat) (a0 : Int) (A1 : Option Addr) (c1 : Nat) (l1 : List (List Int)) (r : Bool) (w : World) (hr1 : Kd.C (Kd.slice 3 (Kd.int .i64)) w A1 l1.length l1) (hc1 : l1.length ≤ c1) (h : impl_GoodClauses.f k a0 l1 = some r) :
    Calls Try.prog 75 #[.int .i64 a0, .slice A1 l1.length c1] w fun e w' => e = .returned (.bool r) ∧ Below w.heap.size w w' := by
  have HR1 := Aside0.mk hr1
  have HC1 := Aside0.mk hc1
  clear hr1 hc1
  have HB := Aside0.mk (Below.refl w.heap.size w)
  have H : ((impl_in.f a0 0 12).bind fun t179 => (if t179 = true then (if (l1.length : Int) ≤ 60 then ((impl_areClauses.f k l1 a0).bind fun t180 => (some t180)) else (some false)) else (some false))) = some r := h
  clear h
  replace H := Option.bind_eq_some_iff.mp H
  obtain ⟨t179, A30, H⟩ := H
  replace H : (if t179 = true then (if (l1.length : Int) ≤ 60 then ((impl_areClauses.f k l1 a0).bind fun t180 => (some t180)) else (some false)) else (some false)) = some r := H
  have A3 := Aside0.mk A30
  clear A30
  by_cases c4 : t179 = true
  · subst c4
    have H1 : (if (l1.length : Int) ≤ 60 then ((impl_areClauses.f k l1 a0).bind fun t180 => (some t180)) else (some false)) = some r := by rw [if_pos rfl] at H; exact H
    clear H
    have H := H1
    clear H1
    by_cases c5 : (l1.length : Int) ≤ 60
    · rw [if_pos c5] at H
      have c5b0 : decide ((l1.length : Int) ≤ 60) = true := decide_eq_true c5
      have c5b1 : decide (l1.length ≤ 60) = true := decide_eq_true (by omega)
      clear c5
      replace H := Option.bind_eq_some_iff.mp H
      obtain ⟨t180, A60, H⟩ := H
      replace H : (some t180) = some r := H
      have A6 := Aside0.mk A60
      clear A60
      obtain rfl := Option.some.inj H
      go_enter Try.func75, Try.ntmps75
      go_wp2_with (first | ((with_reducible refine gate_callee (f := 68) rfl ?_); refine goesL_ (some 6) rfl rfl Try.func68 (by kernel_rfl) rfl #[.int .i64 a0, .int .i64 0, .int .i64 12] rfl (by (try simp only [List.map_toArray, List.map_cons, List.map_nil]); first | done | rfl | (simp only [List.length_drop, List.length_take]; rfl)) ?_; (with_reducible refine (impl_in.calls a0 0 12 true _ A3.out).mono ?_); rintro e w' ⟨rfl, ⟨nd, rfl⟩⟩; refine ⟨_, rfl, ?_⟩) | (go_at_call 95; (with_reducible refine (impl_areClauses.calls k _ _ l1 a0 t180 _ ?side1 ?side2 A6.out).mono ?_); (case side1 => repeat (first | exact HR1.out | (with_reducible refine Kd.C_alloc ?_ _) | (with_reducible refine Kd.C_drewN ?_ _) | (with_reducible refine Kd.C_drew ?_))); (case side2 => exact HC1.out); rintro e w7 ⟨rfl, hb⟩; have n0_ := Aside0.mk (below_step (bq_) hb); clear HB; have HB := n0_; clear n0_; (try clear hb); (try clear hb2); (try clear hk); (try clear hi)))
      go_ret
      exact ⟨by first | rfl | (simp [errW_none, errW_some] <;> rfl) | (simp [*, errW_none, errW_some] <;> rfl), bq_⟩
    · rw [if_neg c5] at H
      have c5b0 : decide ((l1.length : Int) ≤ 60) = false := decide_eq_false c5
      have c5b1 : decide (l1.length ≤ 60) = false := decide_eq_false (by omega)
      clear c5
      obtain rfl := Option.some.inj H
      go_enter Try.func75, Try.ntmps75
      go_wp2_with (first | ((with_reducible refine gate_callee (f := 68) rfl ?_); refine goesL_ (some 6) rfl rfl Try.func68 (by kernel_rfl) rfl #[.int .i64 a0, .int .i64 0, .int .i64 12] rfl (by (try simp only [List.map_toArray, List.map_cons, List.map_nil]); first | done | rfl | (simp only [List.length_drop, List.length_take]; rfl)) ?_; (with_reducible refine (impl_in.calls a0 0 12 true _ A3.out).mono ?_); rintro e w' ⟨rfl, ⟨nd, rfl⟩⟩; refine ⟨_, rfl, ?_⟩))
      go_ret
      exact ⟨by first | rfl | (simp [errW_none, errW_some] <;> rfl) | (simp [*, errW_none, errW_some] <;> rfl), bq_⟩
  · replace c4 := Bool.eq_false_iff.mpr c4
    subst c4
    have H1 : (some false) = some r := by rw [if_neg (show ¬ (false = true) by decide)] at H; exact H
    clear H
    have H := H1
    clear H1
    obtain rfl := Option.some.inj H
    go_enter Try.func75, Try.ntmps75
    go_wp2_with (first | ((with_reducible refine gate_callee (f := 68) rfl ?_); refine goesL_ (some 6) rfl rfl Try.func68 (by kernel_rfl) rfl #[.int .i64 a0, .int .i64 0, .int .i64 12] rfl (by (try simp only [List.map_toArray, List.map_cons, List.map_nil]); first | done | rfl | (simp only [List.length_drop, List.length_take]; rfl)) ?_; (with_reducible refine (impl_in.calls a0 0 12 false _ A3.out).mono ?_); rintro e w' ⟨rfl, ⟨nd, rfl⟩⟩; refine ⟨_, rfl, ?_⟩))
    go_ret
    exact ⟨by first | rfl | (simp [errW_none, errW_some] <;> rfl) | (simp [*, errW_none, errW_some] <;> rfl), bq_⟩
theorem impl_holds.cl_drewN {w : World} {p : Addr} {v : Value} (h : w.cell? p = some v) (n : Nat) : (w.drewN n).cell? p = some v := (Below.cell (pw_below_drewN (Below.refl (p.block + 1) w) n) (Nat.lt_succ_self _)).trans h
theorem impl_holds.cl_drawn {w W : World} {p : Addr} {v : Value} (h : w.cell? p = some v) (hd : Drawn0 w W) : W.cell? p = some v := by
  obtain ⟨m, rfl⟩ := hd
  exact impl_holds.cl_drewN h m
def impl_holds.np (m : List Bool) (x : Int) : Option Bool := (impl_variable.f x).bind fun v => (if 0 ≤ wrap64 (v - 1) then (if wrap64 (v - 1) < (m.length : Int) then some (rdOf false m (wrap64 (v - 1)) == decide (x > 0)) else none) else none)
set_option maxHeartbeats 8000000 in
set_option maxRecDepth 100000 in
theorem impl_holds.np_calls (A : Option Addr) (c : Nat) (m : List Bool) (B : Nat) (x : Int) (r : Bool) (w : World) (hcl : w.cell? ⟨B, 0, none⟩ = some (.slice A m.length c)) (hm : Kd.C Kd.bool w A m.length m) (h : impl_holds.np m x = some r) :
    Calls Try.prog 97 #[.int .i64 x, .pointer (some ⟨B, 0, none⟩)] w fun e w' => e = .returned (.bool r) ∧ Drawn0 w w' := by
  obtain ⟨v, A70, H⟩ := Option.bind_eq_some_iff.mp h
  have A7 := Aside0.mk A70
  clear A70 h
  obtain ⟨j, hj⟩ : ∃ j_ : Int, wrap64 (v - 1) = j_ := ⟨_, rfl⟩
  rw [hj] at H
  have hj2 : IntKind.i64.wrap (v - 1) = j := (i64_w _).trans hj
  by_cases c1 : 0 ≤ j
  · rw [if_pos c1] at H
    by_cases c2 : j < (m.length : Int)
    · rw [if_pos c2] at H
      obtain rfl := Option.some.inj H
      obtain ⟨ad, e1, hx⟩ := Kd.at_bool hm j c1 c2
      cases e1
      have p101 := eq_true c1
      have q101 := eq_true c2
      clear H hm
      go_enter Try.func97, Try.ntmps97
      go_wp2
      go_quiet ((go_at_call 98; exact Calls.quiet_of ((impl_variable.calls x v _ A7.out).mono (fun _ _ h_ => ⟨h_.1, h_.2.1⟩))))
      go_wp2
      go_ret
      exact ⟨by first | rfl | (simp; done) | (simp [*]; done), by repeat (first | exact Drawn0.refl _ | apply Drawn0.step)⟩
    · rw [if_neg c2] at H; cases H
  · rw [if_neg c1] at H; cases H
def impl_holds.idx : Nat → (Int → Option Bool) → List Int → Int → Option Int
  | 0, _, _, _ => none
  | k + 1, p, l, i => if i < (l.length : Int) then (if 0 ≤ i then ((p (rd l i)).bind fun t => (if t = true then some i else impl_holds.idx k p l (wrap64 (i + 1)))) else none) else some (-1)
set_option maxHeartbeats 8000000 in
set_option maxRecDepth 100000 in
theorem impl_holds.idx_calls (k : Nat) (B : Nat) (p : Int → Option Bool) (A0 : Option Addr) (c0 : Nat) (l0 : List Int) (r : Int) (w : World) (hp : ∀ (W : World) (x : Int) (v : Bool), Drawn0 w W → p x = some v → Calls Try.prog 97 #[.int .i64 x, .pointer (some ⟨B, 0, none⟩)] W fun e w' => e = .returned (.bool v) ∧ Drawn0 W w') (hr0 : Kd.C (Kd.int .i64) w A0 l0.length l0) (h : impl_holds.idx k p l0 0 = some r) :
    Calls Try.prog 108 #[.slice A0 l0.length c0, .func (.func 97) #[] #[.pointer (some ⟨B, 0, none⟩)]] w fun e w' => e = .returned (.int .i64 r) ∧ Drawn0 w w' := by
  have HR0 := Aside0.mk hr0
  have HP := Aside0.mk hp
  clear hr0 hp
  have H' := Aside0.mk h
  clear h
  have eg := fun args w => enters_ (P := Try.prog) Try.func97 (by kernel_rfl) rfl args w
  go_enter Try.func108, Try.ntmps108
  go_wp2
  go_loopg [5, 8] k (fun kq v5 v8 w' => ∃ (x8 : Int), v8 = .int .i64 x8 ∧ Aside0 (impl_holds.idx kq p l0 x8 = some r) ∧ Aside0 (kq ≤ k) ∧ Drawn0 w w')
  case atStart => exact ⟨0, (by first | rfl | (simp; done) | (simp [*]; done)), H', ⟨Nat.le_refl _⟩, by repeat (first | exact Drawn0.refl _ | apply Drawn0.step)⟩
  case round =>
    clear H'
    try clear p2
    obtain ⟨x8, rfl, HA, HK1, ⟨m1, rfl⟩⟩ := hrel
    cases gk with
    | zero => exact absurd HA.out (by simp [impl_holds.idx])
    | succ k1 =>
      have H := HA.out
      clear HA
      simp only [impl_holds.idx] at H
      by_cases c4 : x8 < (l0.length : Int)
      · rw [if_pos c4] at H
        have c4b0 : decide (x8 < (l0.length : Int)) = true := decide_eq_true c4
        by_cases c5 : 0 ≤ x8
        · rw [if_pos c5] at H
          have c5b0 : decide (0 ≤ x8) = true := decide_eq_true c5
          obtain ⟨ad101, e101, hx101_0⟩ := Kd.at_int HR0.out x8 c5 c4
          cases e101
          have p101 := eq_true c5
          have q101 := eq_true c4
          clear c5 c4
          replace H := Option.bind_eq_some_iff.mp H
          obtain ⟨t102, A70, H⟩ := H
          have A7 := Aside0.mk A70
          clear A70
          by_cases c8 : t102 = true
          · subst c8
            have H1 : some x8 = some r := by rw [if_pos rfl] at H; exact H
            clear H
            obtain rfl := Option.some.inj H1
            clear H1
            go_wp2_with (go_at_call 97; refine (HP.out _ (rd l0 x8) true (by repeat (first | exact Drawn0.refl _ | apply Drawn0.step)) A7.out).mono ?_; rintro e w' ⟨rfl, ⟨nd, rfl⟩⟩)
            go_ret
            exact ⟨by first | rfl | (simp; done) | (simp [*]; done), by repeat (first | exact Drawn0.refl _ | apply Drawn0.step)⟩
          · replace c8 := Bool.eq_false_iff.mpr c8
            subst c8
            have H1 : impl_holds.idx k1 p l0 (wrap64 (x8 + 1)) = some r := by rw [if_neg (show ¬ (false = true) by decide)] at H; exact H
            clear H
            have H' := Aside0.mk H1
            clear H1
            go_wp2_with (go_at_call 97; refine (HP.out _ (rd l0 x8) false (by repeat (first | exact Drawn0.refl _ | apply Drawn0.step)) A7.out).mono ?_; rintro e w' ⟨rfl, ⟨nd, rfl⟩⟩)
            go_roundg k1
            case measure => have := HK1.out; omega
            case rel => exact ⟨(wrap64 (x8 + 1)), (by first | rfl | (simp; done) | (simp [*]; done)), H', ⟨by have := HK1.out; omega⟩, by repeat (first | exact Drawn0.refl _ | apply Drawn0.step)⟩
        · rw [if_neg c5] at H
          exact absurd H (by simp)
      · rw [if_neg c4] at H
        have c4b0 : decide (x8 < (l0.length : Int)) = false := decide_eq_false c4
        clear c4
        obtain rfl := Option.some.inj H
        go_wp2
        go_ret
        exact ⟨by first | rfl | (simp; done) | (simp [*]; done), by repeat (first | exact Drawn0.refl _ | apply Drawn0.step)⟩
def impl_holds.any (k : Nat) (p : Int → Option Bool) (l : List Int) : Option Bool := (impl_holds.idx k p l 0).bind fun t => some (decide (t ≥ 0))
set_option maxHeartbeats 8000000 in
set_option maxRecDepth 100000 in
theorem impl_holds.any_calls (k : Nat) (B : Nat) (p : Int → Option Bool) (A0 : Option Addr) (c0 n0 : Nat) (l0 : List Int) (r : Bool) (w : World) (hp : ∀ (W : World) (x : Int) (v : Bool), Drawn0 w W → p x = some v → Calls Try.prog 97 #[.int .i64 x, .pointer (some ⟨B, 0, none⟩)] W fun e w' => e = .returned (.bool v) ∧ Drawn0 W w') (hr0 : Kd.C (Kd.int .i64) w A0 n0 l0) (h : impl_holds.any k p l0 = some r) :
    Calls Try.prog 96 #[.slice A0 n0 c0, .func (.func 97) #[] #[.pointer (some ⟨B, 0, none⟩)]] w fun e w' => e = .returned (.bool r) ∧ Drawn0 w w' := by
  obtain rfl : n0 = l0.length := (Kd.C_len hr0).symm
  have HR0 := Aside0.mk hr0
  have HP := Aside0.mk hp
  clear hr0 hp
  obtain ⟨t, A70, H⟩ := Option.bind_eq_some_iff.mp h
  obtain rfl := Option.some.inj H
  have A7 := Aside0.mk A70
  clear A70 H h
  go_enter Try.func96, Try.ntmps96
  have eg := fun args w => enters_ (P := Try.prog) Try.func108 (by kernel_rfl) rfl args w
  go_wp2_with (go_at_call 108; refine (impl_holds.idx_calls k B p A0 c0 l0 t _ HP.out HR0.out A7.out).mono ?_; rintro e w' ⟨rfl, ⟨nd, rfl⟩⟩)
  go_ret
  exact ⟨by first | rfl | (simp; done) | (simp [*]; done), by repeat (first | exact Drawn0.refl _ | apply Drawn0.step)⟩
def impl_holds.l0 : Nat → List (List Int) → List Bool → Int → Option Bool
  | 0, _, _, _ => none
  | k + 1, l, m, i => if i < (l.length : Int) then (if 0 ≤ i then ((impl_holds.any k (impl_holds.np m) (rd_L2 l i)).bind fun u => (if u = true then impl_holds.l0 k l m (wrap64 (i + 1)) else some false)) else none) else some true
def impl_holds.f (k : Nat) (l0 : List (List Int)) (l1 : List Bool) : Option Bool := impl_holds.l0 k l0 l1 0
set_option maxHeartbeats 8000000 in
set_option maxRecDepth 100000 in
theorem impl_holds.calls (k : Nat) (A0 : Option Addr) (c0 : Nat) (l0 : List (List Int)) (A1 : Option Addr) (c1 : Nat) (l1 : List Bool) (r : Bool) (w : World) (hr0 : Kd.C (Kd.slice 3 (Kd.int .i64)) w A0 l0.length l0) (hc0 : l0.length ≤ c0) (hr1 : Kd.C Kd.bool w A1 l1.length l1) (hc1 : l1.length ≤ c1) (h : impl_holds.f k l0 l1 = some r) :
    Calls Try.prog 77 #[.slice A0 l0.length c0, .slice A1 l1.length c1] w fun e w' => e = .returned (.bool r) ∧ Below w.heap.size w w' := by
  have HR0 := Aside0.mk hr0
  have HR1 := Aside0.mk hr1
  have HB := Aside0.mk (Below.refl w.heap.size w)
  clear hr0 hc0 hr1 hc1
  unfold impl_holds.f at h
  have H' := Aside0.mk h
  clear h
  go_enter Try.func77, Try.ntmps77
  go_wp2_with ((with_reducible refine gate_dst (N := 3) rfl ?_); refine boxq_ (N := 3) (cs := #[.slice A1 l1.length c1]) (t := 34) ?_; intro gb hg w27 hbox hb; have BK := Aside0.mk hbox; have n0_ := Aside0.mk (below_step (bq_) hb); clear HB; have HB := n0_; clear n0_ hg hbox hb)
  go_loopg [9] k (fun kq v9 w' => ∃ (x : Int), v9 = .int .i64 x ∧ Aside0 (impl_holds.l0 kq l0 l1 x = some r) ∧ Aside0 (kq ≤ k) ∧ Aside0 (Below w.heap.size w w') ∧ Aside0 (w'.heap[gb]? = some (.cells #[.slice A1 l1.length c1] 34 (0, 0))))
  case atStart => exact ⟨0, (by first | rfl | (simp; done) | (simp [*]; done)), H', ⟨Nat.le_refl _⟩, ⟨(bq_)⟩, ⟨bk_ BK.out⟩⟩
  case round =>
    clear H' HB BK
    obtain ⟨x, rfl, HA, HK1, HB, BK⟩ := hrel
    have hcz0 := cq_ BK.out 0 (.slice A1 l1.length c1)
    cases gk with
    | zero => exact absurd HA.out (by simp [impl_holds.l0])
    | succ k1 =>
      have H := HA.out
      clear HA
      simp only [impl_holds.l0] at H
      by_cases c6 : x < (l0.length : Int)
      · rw [if_pos c6] at H
        have c6b0 : decide (x < (l0.length : Int)) = true := decide_eq_true c6
        by_cases c7 : 0 ≤ x
        · rw [if_pos c7] at H
          obtain ⟨ad, A2, c2, e195, hx195_0, hl1, hi1⟩ := at_L2 (Kd.C_below HR0.out HB.out) x c7 c6
          cases e195
          have p102 := eq_true c7
          have q102 := eq_true c6
          have HI := Aside0.mk hi1
          clear c6 c7 hl1 hi1
          obtain ⟨u, A80, H⟩ := Option.bind_eq_some_iff.mp H
          have A8 := Aside0.mk A80
          clear A80
          have eg2 := fun args w => enters_ (P := Try.prog) Try.func96 (by kernel_rfl) rfl args w
          by_cases c9 : u = true
          · subst c9
            rw [if_pos rfl] at H
            have H' := Aside0.mk H
            clear H
            go_wp2_with (go_at_call 96; refine (impl_holds.any_calls k1 gb (impl_holds.np l1) A2 c2 (rd_L2 l0 x).length (rd_L2 l0 x) true _ (fun W y v hW hv => impl_holds.np_calls A1 c1 l1 gb y v W (impl_holds.cl_drawn (by repeat (first | exact hcz0 | apply impl_holds.cl_drewN)) hW) (Kd.C_below (Kd.C_below HR1.out (bq_)) hW.below) hv) (by (with_reducible repeat (first | apply Kd.C_alloc | apply Kd.C_drewN | apply Kd.C_drew)); exact HI.out) A8.out).mono ?_; rintro e w' ⟨rfl, ⟨nd2, rfl⟩⟩)
            go_roundg k1
            case measure => have := HK1.out; omega
            case rel => exact ⟨(wrap64 (x + 1)), (by first | rfl | (simp; done) | (simp [*]; done)), H', ⟨by have := HK1.out; omega⟩, ⟨(bq_)⟩, ⟨bk_ BK.out⟩⟩
          · replace c9 := Bool.eq_false_iff.mpr c9
            subst c9
            rw [if_neg (by simp)] at H
            obtain rfl := Option.some.inj H
            clear H
            go_wp2_with (go_at_call 96; refine (impl_holds.any_calls k1 gb (impl_holds.np l1) A2 c2 (rd_L2 l0 x).length (rd_L2 l0 x) false _ (fun W y v hW hv => impl_holds.np_calls A1 c1 l1 gb y v W (impl_holds.cl_drawn (by repeat (first | exact hcz0 | apply impl_holds.cl_drewN)) hW) (Kd.C_below (Kd.C_below HR1.out (bq_)) hW.below) hv) (by (with_reducible repeat (first | apply Kd.C_alloc | apply Kd.C_drewN | apply Kd.C_drew)); exact HI.out) A8.out).mono ?_; rintro e w' ⟨rfl, ⟨nd2, rfl⟩⟩)
            go_ret
            exact ⟨by first | rfl | (simp; done) | (simp [*]; done), (bq_)⟩
        · rw [if_neg c7] at H; cases H
      · rw [if_neg c6] at H
        have c6b0 : decide (x < (l0.length : Int)) = false := decide_eq_false c6
        clear c6
        obtain rfl := Option.some.inj H
        clear H
        go_wp2
        go_ret
        exact ⟨by first | rfl | (simp; done) | (simp [*]; done), (bq_)⟩
def impl_model.l0 : Nat → Int → List Bool → Int → Int → Option (List Bool)
  | 0, _, _, _, _ => none
  | k + 1, x1, x5, x10, x11 => if x11 < x10 then (if 0 ≤ x11 then (if x11 < (x5.length : Int) then (impl_model.l0 k x1 (x5.set (x11 : Int).toNat ((Go.bits .and .i64 (shr .i64 x1 x11) 1) == 1)) x10 (wrap64 (x11 + 1))) else (none)) else (none)) else (some x5)
def impl_model.f (k : Nat) (a0 : Int) (a1 : Int) : Option (List Bool) := if 0 ≤ a0 then (if (a0 : Int).toNat ≤ 281474976710656 then ((some (List.replicate (a0 : Int).toNat false : List Bool)).bind fun y181 => (impl_model.l0 k a1 y181 (y181.length : Int) 0)) else (none)) else (none)
set_option maxHeartbeats 8000000 in
set_option maxRecDepth 100000 in
theorem impl_model.calls (k : Nat) (a0 : Int) (a1 : Int) (r : List Bool) (w : World) (h : impl_model.f k a0 a1 = some r) :
    Calls Try.prog 78 #[.int .i64 a0, .int .i64 a1] w fun e w' => ∃ v0_ : Value, e = .returned (v0_) ∧ Kd.R Kd.bool 4 w' w.heap.size (fun _ => True) v0_ r ∧ Below w.heap.size w w' := by
  have HB := Aside0.mk (Below.refl w.heap.size w)
  have H : (if 0 ≤ a0 then (if (a0 : Int).toNat ≤ 281474976710656 then ((some (List.replicate (a0 : Int).toNat false : List Bool)).bind fun y181 => (impl_model.l0 k a1 y181 (y181.length : Int) 0)) else (none)) else (none)) = some r := h
  clear h
  by_cases c3 : 0 ≤ a0
  · rw [if_pos c3] at H
    have c3b0 := eq_true c3
    have c3b1 : decide (0 ≤ a0) = true := decide_eq_true c3
    clear c3
    by_cases c4 : (a0 : Int).toNat ≤ 281474976710656
    · rw [if_pos c4] at H
      have c4b0 := eq_true c4
      have c4b1 : decide ((a0 : Int).toNat ≤ 281474976710656) = true := decide_eq_true c4
      clear c4
      obtain ⟨y181, hy181⟩ : ∃ y_ : List Bool, y_ = (List.replicate (a0 : Int).toNat false) := ⟨_, rfl⟩
      replace H : (impl_model.l0 k a1 y181 (y181.length : Int) 0) = some r := by first | (rw [hy181]; with_reducible exact H) | (have H2_ := (Option.bind_some _ _).symm.trans H; rw [hy181]; with_reducible exact H2_) | (have H2_ := (Option.bind_some _ _).symm.trans H; with_reducible exact H2_) | with_reducible exact H | (rw [hy181]; exact H) | exact H
      have Ny181 := Aside0.mk hy181
      clear hy181
      have H' := Aside0.mk H
      clear H
      go_enter Try.func78, Try.ntmps78
      go_wp2_with (first | ((with_reducible refine gate_dst (N := 8) rfl ?_); refine Kd.R_make Kd.bool _ 4 rfl (N := 8) rfl 34 _ _ rfl a0 rfl rfl Try.underlying34 (.bool false) 1 info4 rfl (by decide) (by omega) false (ok := fun _ => True) (okp := fun _ => True) rfl (fun _ hk => hk) trivial (of_decide_eq_true (by first | (with_reducible assumption) | assumption)) (Nat.le_trans (Nat.mul_le_mul_right _ (of_decide_eq_true (by first | (with_reducible assumption) | assumption) : a0.toNat ≤ 281474976710656)) (by omega)) (Below.refl _ _) (Nat.le_refl _) ?_; intro v182 w5 ho6 hb hg_ hnew_; clear hg_ hnew_; (first | rw [← Ny181.out] at ho6 | (simp only [Int.reduceToNat] at ho6; rw [← Ny181.out] at ho6)); have n0_ := Aside0.mk (Kd.R_lower ho6 (below_size (bq_))); have n1_ := Aside0.mk (below_step (bq_) hb); clear HB; have HO183 := n0_; have HB := n1_; clear n0_ n1_; clear hb ho6; obtain ⟨Ao7, co7, eo7⟩ := Kd.R_slice HO183.out; subst eo7))
      go_loopg [11] k (fun kq v11 w' => ∃ (x5_1 : List Bool) (x11_1 : Int), v11 = .int .i64 x11_1 ∧ Aside0 (impl_model.l0 kq a1 x5_1 (y181.length : Int) x11_1 = some r) ∧ Aside0 (kq ≤ k) ∧ Aside0 (Kd.R Kd.bool 4 w' w.heap.size (fun _ => True) (.slice Ao7 y181.length co7) x5_1) ∧ Aside0 (Below w.heap.size w w'))
      case atStart => exact ⟨(y181), (0), (by first | rfl | (simp; done) | (simp [*]; done)), H', ⟨Nat.le_refl _⟩, ⟨rq_ HO183.out⟩, ⟨bq_⟩⟩
      case round =>
        clear H'
        try clear p2
        try clear c3
        try clear c3b0
        try clear c3b1
        try clear c4
        try clear c4b0
        try clear c4b1
        try clear c7
        obtain ⟨x5_1, x11_1, rfl, HA, HK1, HO_5, HB⟩ := hrel
        have hl5_1 := (Kd.R_reads' HO_5.out).1
        rw [hl5_1] at HO_5
        (try simp only [hl5_1])
        cases gk with
        | zero => exact absurd HA.out (by simp [impl_model.l0])
        | succ k1 =>
          have H := HA.out
          clear HA
          simp only [impl_model.l0] at H
          by_cases c8 : x11_1 < (y181.length : Int)
          · rw [if_pos c8] at H
            have c8b0 : decide (x11_1 < (y181.length : Int)) = true := decide_eq_true c8
            (try (have c8hhl5_1 := c8b0; simp only [hl5_1] at c8hhl5_1))
            clear c8
            by_cases c9 : 0 ≤ x11_1
            · rw [if_pos c9] at H
              have c9b0 := eq_true c9
              have c9b1 : decide (0 ≤ x11_1) = true := decide_eq_true c9
              clear c9
              obtain ⟨ji10, hji10⟩ : ∃ j_ : Int, (shr .i64 a1 x11_1) = j_ := ⟨_, rfl⟩
              replace H : (if x11_1 < (x5_1.length : Int) then (impl_model.l0 k1 a1 (x5_1.set (x11_1 : Int).toNat ((Go.bits .and .i64 (ji10) 1) == 1)) (y181.length : Int) (wrap64 (x11_1 + 1))) else (none)) = some r := by first | (rw [hji10] at H; exact H) | (simp only [hji10] at H ⊢; exact H)
              have hji10_ : (a1 / 2 ^ min x11_1.toNat 64) = ji10 := hji10
              have hji10z : x11_1 ≤ 64 → (a1 / 2 ^ x11_1.toNat) = ji10 := shr_small hji10
              by_cases c11 : x11_1 < (x5_1.length : Int)
              · rw [if_pos c11] at H
                have c11b0 : decide (x11_1 < (x5_1.length : Int)) = true := decide_eq_true c11
                (try (have c11hhl5_1 := c11b0; simp only [hl5_1] at c11hhl5_1))
                clear c11
                obtain ⟨y184, hy184⟩ : ∃ y_ : List Bool, y_ = (x5_1.set (x11_1 : Int).toNat ((Go.bits .and .i64 (ji10) 1) == 1)) := ⟨_, rfl⟩
                replace H : (impl_model.l0 k1 a1 y184 (y181.length : Int) (wrap64 (x11_1 + 1))) = some r := by first | (rw [hy184]; with_reducible exact H) | (have H2_ := (Option.bind_some _ _).symm.trans H; rw [hy184]; with_reducible exact H2_) | (have H2_ := (Option.bind_some _ _).symm.trans H; with_reducible exact H2_) | with_reducible exact H | (rw [hy184]; exact H) | exact H
                have Ny184 := Aside0.mk hy184
                clear hy184
                have H' := Aside0.mk H
                clear H
                have p12 : 0 ≤ (x11_1 : Int) := of_decide_eq_true (by first | (with_reducible assumption) | assumption)
                have q12 : (x11_1 : Int) < ((x5_1.length : Int) : Int) := of_decide_eq_true (by first | (with_reducible assumption) | assumption)
                obtain ⟨go12, co12, eo12, gb12, gl12, cl12, HG12⟩ := Kd.R_form HO_5.out (by omega)
                (first | cases eo12 | (injection eo12 with ea_ en_ ec_; (first | subst ea_ | (injection ea_ with ea_; subst ea_)); subst ec_; clear en_))
                have GB12 := Aside0.mk gb12
                have GG12 := Aside0.mk HG12
                clear gb12 gl12 HG12
                obtain ⟨hx12_0, hf12_0⟩ := Kd.R_celln false HO_5.out (x11_1 : Int) p12 q12
                replace p12 := eq_true p12
                replace q12 := eq_true q12
                have HP13 := Kd.R_putg HO_5.out (x11_1 : Int) ((Go.bits .and .i64 (ji10) 1) == 1)
                go_wp2_with (first | ((with_reducible refine gate_store (t := 4) (p := 21) rfl ?_); refine store_event (t := 4) (p := 21) (v := ?vo_w14) (w1 := (wr.setCell ⟨go12, (x11_1 : Int).toNat, none⟩ (.bool ((Go.bits .and .i64 (ji10) 1) == 1)))) ?hg ?ho ?hn ?hr ?_; (case ho => rfl); (case hg => rfl); (case hn => rfl); (case hr => first | (go_simp; done) | (go_simp; rfl)); intro w14 hw; have hg : wr.grownBy w14 (some go12) := (by rw [hw]; exact HP13.2); have hp_ : Kd.R Kd.bool 4 w14 w.heap.size (fun _ => True) (.slice (some ⟨go12, 0, none⟩) x5_1.length co7) y184 := (by rw [hw, Ny184.out]; exact HP13.1); clear HP13; have n0_ := Aside0.mk (hp_); have n1_ := Aside0.mk ((by rw [hw]; exact below_set (HB.out) GB12.out : Below w.heap.size w w14)); clear HO_5; clear HB; have HO_5 := n0_; have HB := n1_; clear n0_ n1_; clear hg hw hp_))
                (try simp only [← hl5_1])
                go_roundg k1
                case measure => have := HK1.out; omega
                case rel => exact ⟨(y184), (wrap64 (x11_1 + 1)), (by first | rfl | (simp; done) | (simp [*]; done)), H', ⟨by have := HK1.out; omega⟩, ⟨by (try simp only [hl5_1]); (with_reducible repeat (first | apply Kd.R_alloc | apply Kd.R_drewN | apply Kd.R_drew)); exact HO_5.out⟩, ⟨bq_⟩⟩
              · rw [if_neg c11] at H
                exact absurd H (by simp)
            · rw [if_neg c9] at H
              exact absurd H (by simp)
          · rw [if_neg c8] at H
            have c8b0 : decide (x11_1 < (y181.length : Int)) = false := decide_eq_false c8
            (try (have c8hhl5_1 := c8b0; simp only [hl5_1] at c8hhl5_1))
            clear c8
            obtain rfl := Option.some.inj H
            go_wp2
            go_ret
            exact ⟨_, by first | rfl | (simp [errW_none, errW_some] <;> rfl) | (simp [*, errW_none, errW_some] <;> rfl), rq_ HO_5.out, bq_⟩
    · rw [if_neg c4] at H
      exact absurd H (by simp)
  · rw [if_neg c3] at H
    exact absurd H (by simp)
end Go.Proofs.Ytpndhlcbfobelaa.PBE
