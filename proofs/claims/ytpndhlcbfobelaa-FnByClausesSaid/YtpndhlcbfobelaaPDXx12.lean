import Derived.Test.YtpndhlcbfobelaaPDXx0
import Derived.Test.YtpndhlcbfobelaaPDXx3
import Derived.Test.YtpndhlcbfobelaaPDXx11
namespace Go.Proofs.Ytpndhlcbfobelaa.PDX
open Go.RowKit Go.Proofs.YtpndhlcbfobelaaW.PrintWords Go.Proofs.YtpndhlcbfobelaaW.PrintLast Go.Proofs.YtpndhlcbfobelaaW.PrintMore
attribute [local go_sem] max2_int min2_int max_two min_two max_three min_three max_four min_four   -- for this text's walks alone
set_option linter.unusedVariables false
set_option linter.unusedSimpArgs false
theorem impl_holds.cl_drewN {w : World} {p : Addr} {v : Value} (h : w.cell? p = some v) (n : Nat) : (w.drewN n).cell? p = some v := (Below.cell (pw_below_drewN (Below.refl (p.block + 1) w) n) (Nat.lt_succ_self _)).trans h
theorem impl_holds.cl_drawn {w W : World} {p : Addr} {v : Value} (h : w.cell? p = some v) (hd : Drawn0 w W) : W.cell? p = some v := by
 obtain ⟨m, rfl⟩ := hd
 exact impl_holds.cl_drewN h m
def impl_holds.np (m : List Bool) (x : Int) : Option Bool := (impl_variable.f x).bind fun v => (if 0 ≤ wrap64 (v - 1) then (if wrap64 (v - 1) < (m.length : Int) then some (rdOf false m (wrap64 (v - 1)) == decide (x > 0)) else none) else none)
set_option maxHeartbeats 8000000 in
set_option maxRecDepth 100000 in
theorem impl_holds.np_calls (A : Option Addr) (c : Nat) (m : List Bool) (B : Nat) (x : Int) (r : Bool) (w : World) (hcl : w.cell? ⟨B, 0, none⟩ = some (.slice A m.length c)) (hm : Kd.C Kd.bool w A m.length m) (h : impl_holds.np m x = some r) :
  Calls Try.prog 97 #[.int .i64 x, .pointer (some ⟨B, 0, none⟩)] w fun e w' => e = .returned (.bool r) ∧ Drawn0 w w' := by
 obtain ⟨v, A70, H⟩ := Option.bind_eq_some_iff.mp h
 have A7 := am_ A70
 clear A70 h
 obtain ⟨j, hj⟩ : ∃ j_ : Int, wrap64 (v - 1) = j_ := ⟨_, rfl⟩
 rw [hj] at H
 have hj2 : IntKind.i64.wrap (v - 1) = j := (i64_w _).trans hj
 by_cases c1 : 0 ≤ j
 ·rw [if_pos c1] at H
  by_cases c2 : j < (m.length : Int)
  ·rw [if_pos c2] at H
   obtain rfl := Option.some.inj H
   obtain ⟨ad, e1, hx⟩ := Kd.at_bool hm j c1 c2
   cases e1
   have p101 := eq_true c1
   have q101 := eq_true c2
   clear H hm
   go_enter Try.func97, Try.ntmps97
   go_wp2
   go_quiet ((go_at_call 98; exact Calls.quiet_of ((impl_variable.calls x v _ A7.out).mono (fun _ _ h_ => ⟨h_.1, h_.2.1⟩))))
   go_wp2
   go_ret
   exact ⟨by first | rfl | (simp; done) | (simp [*]; done), by repeat (first | exact Drawn0.refl _ | apply Drawn0.step)⟩
  ·rw [if_neg c2] at H; cases H
 ·rw [if_neg c1] at H; cases H
def impl_holds.idx : Nat → (Int → Option Bool) → List Int → Int → Option Int
 | 0, _, _, _ => none
 | k + 1, p, l, i => if i < (l.length : Int) then (if 0 ≤ i then ((p (rd l i)).bind fun t => (if t = true then some i else impl_holds.idx k p l (wrap64 (i + 1)))) else none) else some (-1)
set_option maxHeartbeats 8000000 in
set_option maxRecDepth 100000 in
theorem impl_holds.idx_calls (k : Nat) (B : Nat) (p : Int → Option Bool) (A0 : Option Addr) (c0 : Nat) (l0 : List Int) (r : Int) (w : World) (hp : ∀ (W : World) (x : Int) (v : Bool), Drawn0 w W → p x = some v → Calls Try.prog 97 #[.int .i64 x, .pointer (some ⟨B, 0, none⟩)] W fun e w' => e = .returned (.bool v) ∧ Drawn0 W w') (hr0 : Kd.C (Kd.int .i64) w A0 l0.length l0) (h : impl_holds.idx k p l0 0 = some r) :
  Calls Try.prog 108 #[.slice A0 l0.length c0, .func (.func 97) #[] #[.pointer (some ⟨B, 0, none⟩)]] w fun e w' => e = .returned (.int .i64 r) ∧ Drawn0 w w' := by
 have HR0 := am_ hr0
 have HP := am_ hp
 clear hr0 hp
 have H' := am_ h
 clear h
 have eg := fun args w => enters_ (P := Try.prog) Try.func97 (by kernel_rfl) rfl args w
 go_enter Try.func108, Try.ntmps108
 go_wp2
 go_loopg [5, 8] k (fun kq v5 v8 w' => ∃ (x8 : Int), v8 = .int .i64 x8 ∧ Aside0 (impl_holds.idx kq p l0 x8 = some r) ∧ Aside0 (kq ≤ k) ∧ Drawn0 w w')
 case atStart => exact ⟨0, y30_, H', ⟨Nat.le_refl _⟩, by repeat (first | exact Drawn0.refl _ | apply Drawn0.step)⟩
 case round =>
  clear H'
  try clear p2
  obtain ⟨x8, rfl, HA, HK1, ⟨m1, rfl⟩⟩ := hrel
  cases gk with
  | zero => exact absurd HA.out (by simp [impl_holds.idx])
  | succ k1 =>
   have H := HA.out
   clear HA
   simp only [impl_holds.idx] at H
   by_cases c4 : x8 < (l0.length : Int)
   ·rw [if_pos c4] at H
    have c4b0 : decide (x8 < (l0.length : Int)) = true := decide_eq_true c4
    by_cases c5 : 0 ≤ x8
    ·rw [if_pos c5] at H
     have c5b0 : decide (0 ≤ x8) = true := decide_eq_true c5
     obtain ⟨ad101, e101, hx101_0⟩ := Kd.at_int HR0.out x8 c5 c4
     cases e101
     have p101 := eq_true c5
     have q101 := eq_true c4
     clear c5 c4
     replace H := Option.bind_eq_some_iff.mp H
     obtain ⟨t102, A70, H⟩ := H
     have A7 := am_ A70
     clear A70
     by_cases c8 : t102 = true
     ·subst c8
      have H1 : some x8 = some r := by rw [if_pos rfl] at H; exact H
      clear H
      obtain rfl := Option.some.inj H1
      clear H1
      go_wp2_with (go_at_call 97; refine (HP.out _ (rd l0 x8) true y28_ A7.out).mono ?_; rintro e w' ⟨rfl, ⟨nd, rfl⟩⟩)
      go_ret
      exact ⟨by first | rfl | (simp; done) | (simp [*]; done), by repeat (first | exact Drawn0.refl _ | apply Drawn0.step)⟩
     ·replace c8 := Bool.eq_false_iff.mpr c8
      subst c8
      have H1 : impl_holds.idx k1 p l0 (wrap64 (x8 + 1)) = some r := by rw [if_neg (show ¬ (false = true) by decide)] at H; exact H
      clear H
      have H' := am_ H1
      clear H1
      go_wp2_with (go_at_call 97; refine (HP.out _ (rd l0 x8) false y28_ A7.out).mono ?_; rintro e w' ⟨rfl, ⟨nd, rfl⟩⟩)
      go_roundg k1
      case measure => have := HK1.out; omega
      case rel => exact ⟨(wrap64 (x8 + 1)), y30_, H', ⟨by have := HK1.out; omega⟩, by repeat (first | exact Drawn0.refl _ | apply Drawn0.step)⟩
    ·rw [if_neg c5] at H
     exact absurd H (by simp)
   ·rw [if_neg c4] at H
    have c4b0 : decide (x8 < (l0.length : Int)) = false := decide_eq_false c4
    clear c4
    obtain rfl := Option.some.inj H
    go_wp2
    go_ret
    exact ⟨by first | rfl | (simp; done) | (simp [*]; done), by repeat (first | exact Drawn0.refl _ | apply Drawn0.step)⟩
def impl_holds.any (k : Nat) (p : Int → Option Bool) (l : List Int) : Option Bool := (impl_holds.idx k p l 0).bind fun t => some (decide (t ≥ 0))
set_option maxHeartbeats 8000000 in
set_option maxRecDepth 100000 in
theorem impl_holds.any_calls (k : Nat) (B : Nat) (p : Int → Option Bool) (A0 : Option Addr) (c0 n0 : Nat) (l0 : List Int) (r : Bool) (w : World) (hp : ∀ (W : World) (x : Int) (v : Bool), Drawn0 w W → p x = some v → Calls Try.prog 97 #[.int .i64 x, .pointer (some ⟨B, 0, none⟩)] W fun e w' => e = .returned (.bool v) ∧ Drawn0 W w') (hr0 : Kd.C (Kd.int .i64) w A0 n0 l0) (h : impl_holds.any k p l0 = some r) :
  Calls Try.prog 96 #[.slice A0 n0 c0, .func (.func 97) #[] #[.pointer (some ⟨B, 0, none⟩)]] w fun e w' => e = .returned (.bool r) ∧ Drawn0 w w' := by
 obtain rfl : n0 = l0.length := (Kd.C_len hr0).symm
 have HR0 := am_ hr0
 have HP := am_ hp
 clear hr0 hp
 obtain ⟨t, A70, H⟩ := Option.bind_eq_some_iff.mp h
 obtain rfl := Option.some.inj H
 have A7 := am_ A70
 clear A70 H h
 go_enter Try.func96, Try.ntmps96
 have eg := fun args w => enters_ (P := Try.prog) Try.func108 (by kernel_rfl) rfl args w
 go_wp2_with (go_at_call 108; refine (impl_holds.idx_calls k B p A0 c0 l0 t _ HP.out HR0.out A7.out).mono ?_; rintro e w' ⟨rfl, ⟨nd, rfl⟩⟩)
 go_ret
 exact ⟨by first | rfl | (simp; done) | (simp [*]; done), by repeat (first | exact Drawn0.refl _ | apply Drawn0.step)⟩
def impl_holds.l0 : Nat → List (List Int) → List Bool → Int → Option Bool
 | 0, _, _, _ => none
 | k + 1, l, m, i => if i < (l.length : Int) then (if 0 ≤ i then ((impl_holds.any k (impl_holds.np m) (rd_L6 l i)).bind fun u => (if u = true then impl_holds.l0 k l m (wrap64 (i + 1)) else some false)) else none) else some true
def impl_holds.f (k : Nat) (l0 : List (List Int)) (l1 : List Bool) : Option Bool := impl_holds.l0 k l0 l1 0
set_option maxHeartbeats 8000000 in
set_option maxRecDepth 100000 in
theorem impl_holds.calls (k : Nat) (A0 : Option Addr) (c0 : Nat) (l0 : List (List Int)) (A1 : Option Addr) (c1 : Nat) (l1 : List Bool) (r : Bool) (w : World) (hr0 : Kd.C (Kd.slice 3 (Kd.int .i64)) w A0 l0.length l0) (hc0 : l0.length ≤ c0) (hr1 : Kd.C Kd.bool w A1 l1.length l1) (hc1 : l1.length ≤ c1) (h : impl_holds.f k l0 l1 = some r) :
  Calls Try.prog 77 #[.slice A0 l0.length c0, .slice A1 l1.length c1] w fun e w' => e = .returned (.bool r) ∧ Below w.heap.size w w' := by
 have HR0 := am_ hr0
 have HR1 := am_ hr1
 have HB := am_ (Below.refl w.heap.size w)
 clear hr0 hc0 hr1 hc1
 unfold impl_holds.f at h
 have H' := am_ h
 clear h
 go_enter Try.func77, Try.ntmps77
 go_wp2_with ((with_reducible refine gate_dst (N := 3) rfl ?_); refine boxq_ (N := 3) (cs := #[.slice A1 l1.length c1]) (t := 34) ?_; intro gb hg w27 hbox hb; have BK := am_ hbox; replace HB := bs_ hb; clear hg hbox hb)
 go_loopg [9] k (fun kq v9 w' => ∃ (x : Int), v9 = .int .i64 x ∧ Aside0 (impl_holds.l0 kq l0 l1 x = some r) ∧ Aside0 (kq ≤ k) ∧ Aside0 (Below w.heap.size w w') ∧ Aside0 (w'.heap[gb]? = some (.cells #[.slice A1 l1.length c1] 34 (0, 0))))
 case atStart => exact ⟨0, y30_, H', ⟨Nat.le_refl _⟩, ⟨(bq_)⟩, ⟨bk_ BK.out⟩⟩
 case round =>
  clear H' HB BK
  obtain ⟨x, rfl, HA, HK1, HB, BK⟩ := hrel
  have hcz0 := cq_ BK.out 0 (.slice A1 l1.length c1)
  cases gk with
  | zero => exact absurd HA.out (by simp [impl_holds.l0])
  | succ k1 =>
   have H := HA.out
   clear HA
   simp only [impl_holds.l0] at H
   by_cases c6 : x < (l0.length : Int)
   ·rw [if_pos c6] at H
    have c6b0 : decide (x < (l0.length : Int)) = true := decide_eq_true c6
    by_cases c7 : 0 ≤ x
    ·rw [if_pos c7] at H
     obtain ⟨ad, A2, c2, e195, hx195_0, hl1, hi1⟩ := at_L6 (Kd.C_below HR0.out HB.out) x c7 c6
     cases e195
     have p102 := eq_true c7
     have q102 := eq_true c6
     have HI := am_ hi1
     clear c6 c7 hl1 hi1
     obtain ⟨u, A80, H⟩ := Option.bind_eq_some_iff.mp H
     have A8 := am_ A80
     clear A80
     have eg2 := fun args w => enters_ (P := Try.prog) Try.func96 (by kernel_rfl) rfl args w
     by_cases c9 : u = true
     ·subst c9
      rw [if_pos rfl] at H
      have H' := am_ H
      clear H
      go_wp2_with (go_at_call 96; refine (impl_holds.any_calls k1 gb (impl_holds.np l1) A2 c2 (rd_L6 l0 x).length (rd_L6 l0 x) true _ (fun W y v hW hv => impl_holds.np_calls A1 c1 l1 gb y v W (impl_holds.cl_drawn (by repeat (first | exact hcz0 | apply impl_holds.cl_drewN)) hW) (Kd.C_below (Kd.C_below HR1.out (bq_)) hW.below) hv) (cm_ HI.out) A8.out).mono ?_; rintro e w' ⟨rfl, ⟨nd2, rfl⟩⟩)
      go_roundg k1
      case measure => have := HK1.out; omega
      case rel => exact ⟨(wrap64 (x + 1)), y30_, H', ⟨by have := HK1.out; omega⟩, ⟨(bq_)⟩, ⟨bk_ BK.out⟩⟩
     ·replace c9 := Bool.eq_false_iff.mpr c9
      subst c9
      rw [if_neg (by simp)] at H
      obtain rfl := Option.some.inj H
      clear H
      go_wp2_with (go_at_call 96; refine (impl_holds.any_calls k1 gb (impl_holds.np l1) A2 c2 (rd_L6 l0 x).length (rd_L6 l0 x) false _ (fun W y v hW hv => impl_holds.np_calls A1 c1 l1 gb y v W (impl_holds.cl_drawn (by repeat (first | exact hcz0 | apply impl_holds.cl_drewN)) hW) (Kd.C_below (Kd.C_below HR1.out (bq_)) hW.below) hv) (cm_ HI.out) A8.out).mono ?_; rintro e w' ⟨rfl, ⟨nd2, rfl⟩⟩)
      go_ret
      exact ⟨by first | rfl | (simp; done) | (simp [*]; done), (bq_)⟩
    ·rw [if_neg c7] at H; cases H
   ·rw [if_neg c6] at H
    have c6b0 : decide (x < (l0.length : Int)) = false := decide_eq_false c6
    clear c6
    obtain rfl := Option.some.inj H
    clear H
    go_wp2
    go_ret
    exact ⟨by first | rfl | (simp; done) | (simp [*]; done), (bq_)⟩
def impl_model.l0 : Nat → Int → List Bool → Int → Int → Option (List Bool)
 | 0, _, _, _, _ => none
 | k + 1, x1, x5, x10, x11 => if x11 < x10 then (if 0 ≤ x11 then (if x11 < (x5.length : Int) then (impl_model.l0 k x1 (x5.set (x11 : Int).toNat ((Go.bits .and .i64 (shr .i64 x1 x11) 1) == 1)) x10 (wrap64 (x11 + 1))) else (none)) else (none)) else (some x5)
def impl_model.f (k : Nat) (a0 : Int) (a1 : Int) : Option (List Bool) := if 0 ≤ a0 then (if (a0 : Int).toNat ≤ 281474976710656 then ((some (List.replicate (a0 : Int).toNat false : List Bool)).bind fun y260 => (impl_model.l0 k a1 y260 (y260.length : Int) 0)) else (none)) else (none)
set_option maxHeartbeats 8000000 in
set_option maxRecDepth 100000 in
theorem impl_model.calls (k : Nat) (a0 : Int) (a1 : Int) (r : List Bool) (w : World) (h : impl_model.f k a0 a1 = some r) :
  Calls Try.prog 78 #[.int .i64 a0, .int .i64 a1] w fun e w' => ∃ v0_ : Value, e = .returned (v0_) ∧ Kd.R Kd.bool 4 w' w.heap.size (fun _ => True) v0_ r ∧ Below w.heap.size w w' := by
 have HB := am_ (Below.refl w.heap.size w)
 have H : (if 0 ≤ a0 then (if (a0 : Int).toNat ≤ 281474976710656 then ((some (List.replicate (a0 : Int).toNat false : List Bool)).bind fun y260 => (impl_model.l0 k a1 y260 (y260.length : Int) 0)) else (none)) else (none)) = some r := h
 clear h
 by_cases c3 : 0 ≤ a0
 ·rw [if_pos c3] at H
  have c3b0 := eq_true c3
  have c3b1 : decide (0 ≤ a0) = true := decide_eq_true c3
  clear c3
  by_cases c4 : (a0 : Int).toNat ≤ 281474976710656
  ·rw [if_pos c4] at H
   have c4b0 := eq_true c4
   have c4b1 : decide ((a0 : Int).toNat ≤ 281474976710656) = true := decide_eq_true c4
   clear c4
   obtain ⟨y260, hy260⟩ : ∃ y_ : List Bool, y_ = (List.replicate (a0 : Int).toNat false) := ⟨_, rfl⟩
   replace H : (impl_model.l0 k a1 y260 (y260.length : Int) 0) = some r := by first | (rw [hy260]; with_reducible exact H) | (have H2_ := (Option.bind_some _ _).symm.trans H; rw [hy260]; with_reducible exact H2_) | (have H2_ := (Option.bind_some _ _).symm.trans H; with_reducible exact H2_) | with_reducible exact H | (rw [hy260]; exact H) | exact H
   have Ny260 := am_ hy260
   clear hy260
   have H' := am_ H
   clear H
   go_enter Try.func78, Try.ntmps78
   go_wp2_with (first | ((with_reducible refine gate_dst (N := 8) rfl ?_); refine Kd.R_make Kd.bool _ 4 rfl (N := 8) rfl 34 _ _ rfl a0 rfl rfl Try.underlying34 (.bool false) 1 info4 rfl (by decide) (by omega) false (ok := fun _ => True) (okp := fun _ => True) rfl (fun _ hk => hk) trivial (od_) (Nat.le_trans (Nat.mul_le_mul_right _ (od_ : a0.toNat ≤ 281474976710656)) (by omega)) (Below.refl _ _) (Nat.le_refl _) ?_; intro v261 w5 ho6 hb hg_ hnew_; clear hg_ hnew_; (first | rw [← Ny260.out] at ho6 | (simp only [Int.reduceToNat] at ho6; rw [← Ny260.out] at ho6)); have HO262 := am_ (Kd.R_lower ho6 (below_size (bq_))); replace HB := bs_ hb; clear hb ho6; obtain ⟨Ao7, co7, eo7⟩ := Kd.R_slice HO262.out; subst eo7))
   go_loopg [11] k (fun kq v11 w' => ∃ (x5_1 : List Bool) (x11_1 : Int), v11 = .int .i64 x11_1 ∧ Aside0 (impl_model.l0 kq a1 x5_1 (y260.length : Int) x11_1 = some r) ∧ Aside0 (kq ≤ k) ∧ Aside0 (Kd.R Kd.bool 4 w' w.heap.size (fun _ => True) (.slice Ao7 y260.length co7) x5_1) ∧ Aside0 (Below w.heap.size w w'))
   case atStart => exact ⟨(y260), (0), y30_, H', ⟨Nat.le_refl _⟩, ⟨rq_ HO262.out⟩, ⟨bq_⟩⟩
   case round =>
    clear H'
    try clear p2
    try clear c3
    try clear c3b0
    try clear c3b1
    try clear c4
    try clear c4b0
    try clear c4b1
    try clear c7
    obtain ⟨x5_1, x11_1, rfl, HA, HK1, HO_5, HB⟩ := hrel
    have hl5_1 := (Kd.R_reads' HO_5.out).1
    rw [hl5_1] at HO_5
    (try simp only [hl5_1])
    cases gk with
    | zero => exact absurd HA.out (by simp [impl_model.l0])
    | succ k1 =>
     have H := HA.out
     clear HA
     simp only [impl_model.l0] at H
     by_cases c8 : x11_1 < (y260.length : Int)
     ·rw [if_pos c8] at H
      have c8b0 : decide (x11_1 < (y260.length : Int)) = true := decide_eq_true c8
      (try (have c8hhl5_1 := c8b0; simp only [hl5_1] at c8hhl5_1))
      clear c8
      by_cases c9 : 0 ≤ x11_1
      ·rw [if_pos c9] at H
       have c9b0 := eq_true c9
       have c9b1 : decide (0 ≤ x11_1) = true := decide_eq_true c9
       clear c9
       obtain ⟨ji10, hji10⟩ : ∃ j_ : Int, (shr .i64 a1 x11_1) = j_ := ⟨_, rfl⟩
       replace H : (if x11_1 < (x5_1.length : Int) then (impl_model.l0 k1 a1 (x5_1.set (x11_1 : Int).toNat ((Go.bits .and .i64 (ji10) 1) == 1)) (y260.length : Int) (wrap64 (x11_1 + 1))) else (none)) = some r := by first | (rw [hji10] at H; exact H) | (simp only [hji10] at H ⊢; exact H)
       have hji10_ : (a1 / 2 ^ min x11_1.toNat 64) = ji10 := hji10
       have hji10z : x11_1 ≤ 64 → (a1 / 2 ^ x11_1.toNat) = ji10 := shr_small hji10
       by_cases c11 : x11_1 < (x5_1.length : Int)
       ·rw [if_pos c11] at H
        have c11b0 : decide (x11_1 < (x5_1.length : Int)) = true := decide_eq_true c11
        (try (have c11hhl5_1 := c11b0; simp only [hl5_1] at c11hhl5_1))
        clear c11
        obtain ⟨y263, hy263⟩ : ∃ y_ : List Bool, y_ = (x5_1.set (x11_1 : Int).toNat ((Go.bits .and .i64 (ji10) 1) == 1)) := ⟨_, rfl⟩
        replace H : (impl_model.l0 k1 a1 y263 (y260.length : Int) (wrap64 (x11_1 + 1))) = some r := by first | (rw [hy263]; with_reducible exact H) | (have H2_ := (Option.bind_some _ _).symm.trans H; rw [hy263]; with_reducible exact H2_) | (have H2_ := (Option.bind_some _ _).symm.trans H; with_reducible exact H2_) | with_reducible exact H | (rw [hy263]; exact H) | exact H
        have Ny263 := am_ hy263
        clear hy263
        have H' := am_ H
        clear H
        have p12 : 0 ≤ (x11_1 : Int) := od_
        have q12 : (x11_1 : Int) < ((x5_1.length : Int) : Int) := od_
        obtain ⟨go12, co12, eo12, gb12, gl12, cl12, HG12⟩ := Kd.R_form HO_5.out (by omega)
        (first | cases eo12 | (injection eo12 with ea_ en_ ec_; (first | subst ea_ | (injection ea_ with ea_; subst ea_)); subst ec_; clear en_))
        have GB12 := am_ gb12
        have GG12 := am_ HG12
        clear gb12 gl12 HG12
        obtain ⟨hx12_0, hf12_0⟩ := Kd.R_celln false HO_5.out (x11_1 : Int) p12 q12
        replace p12 := eq_true p12
        replace q12 := eq_true q12
        have HP13 := Kd.R_putg HO_5.out (x11_1 : Int) ((Go.bits .and .i64 (ji10) 1) == 1)
        go_wp2_with (first | ((with_reducible refine gate_store (t := 4) (p := 21) rfl ?_); refine store_event (t := 4) (p := 21) (v := ?vo_w14) (w1 := (wr.setCell ⟨go12, (x11_1 : Int).toNat, none⟩ (.bool ((Go.bits .and .i64 (ji10) 1) == 1)))) ?hg ?ho ?hn ?hr ?_; (case ho => rfl); (case hg => rfl); (case hn => rfl); (case hr => first | (go_simp; done) | (go_simp; rfl)); intro w14 hw; have hg : wr.grownBy w14 (some go12) := (by rw [hw]; exact HP13.2); have hp_ : Kd.R Kd.bool 4 w14 w.heap.size (fun _ => True) (.slice (some ⟨go12, 0, none⟩) x5_1.length co7) y263 := (by rw [hw, Ny263.out]; exact HP13.1); clear HP13; replace HO_5 := am_ (hp_); replace HB := am_ ((by rw [hw]; exact below_set (HB.out) GB12.out : Below w.heap.size w w14)); clear hg hw hp_))
        (try simp only [← hl5_1])
        go_roundg k1
        case measure => have := HK1.out; omega
        case rel => exact ⟨(y263), (wrap64 (x11_1 + 1)), y30_, H', ⟨by have := HK1.out; omega⟩, ⟨by (try simp only [hl5_1]); (with_reducible repeat (first | apply Kd.R_alloc | apply Kd.R_drewN | apply Kd.R_drew)); exact HO_5.out⟩, ⟨bq_⟩⟩
       ·rw [if_neg c11] at H
        exact absurd H (by simp)
      ·rw [if_neg c9] at H
       exact absurd H (by simp)
     ·rw [if_neg c8] at H
      have c8b0 : decide (x11_1 < (y260.length : Int)) = false := decide_eq_false c8
      (try (have c8hhl5_1 := c8b0; simp only [hl5_1] at c8hhl5_1))
      clear c8
      obtain rfl := Option.some.inj H
      go_wp2
      go_ret
      exact ⟨_, by first | rfl | (simp [errW_none, errW_some] <;> rfl) | (simp [*, errW_none, errW_some] <;> rfl), rq_ HO_5.out, bq_⟩
  ·rw [if_neg c4] at H
   exact absurd H (by simp)
 ·rw [if_neg c3] at H
  exact absurd H (by simp)
def impl_ByClauses.pr (k : Nat) (l : List (List Int)) (vars i : Int) : Option Bool := (impl_model.f k vars i).bind fun m => impl_holds.f k l m
set_option maxHeartbeats 4000000 in
set_option maxRecDepth 100000 in
theorem impl_ByClauses.pr_calls (k B0 B1 : Nat) (A : Option Addr) (c : Nat) (l : List (List Int)) (vars x : Int) (v : Bool) (w : World) (hB0 : w.heap[B0]? = some (.cells #[.slice A l.length c] 50 (0, 0))) (hB1 : w.heap[B1]? = some (.cells #[.int .i64 vars] 3 (0, 0))) (hr : Kd.C (Kd.slice 3 (Kd.int .i64)) w A l.length l) (hc : l.length ≤ c) (h : impl_ByClauses.pr k l vars x = some v) :
  Calls Try.prog 76 #[.int .i64 x, .pointer (some ⟨B0, 0, none⟩), .pointer (some ⟨B1, 0, none⟩)] w fun e w' => e = .returned (.bool v) ∧ Below w.heap.size w w' := by
 have HR := am_ hr
 have HC := am_ hc
 unfold impl_ByClauses.pr at h
 clear hr hc
 have hc0 : w.cell? ⟨B0, 0, none⟩ = some (.slice A l.length c) := (blk_cell hB0 0).trans rfl
 have hc1 : w.cell? ⟨B1, 0, none⟩ = some (.int .i64 vars) := (blk_cell hB1 0).trans rfl
 clear hB0 hB1
 obtain ⟨m, A70, h⟩ := Option.bind_eq_some_iff.mp h
 have A7 := am_ A70
 have A8 := am_ h
 clear A70 h
 go_enter Try.func76, Try.ntmps76
 go_wp2
 refine start_ (n := 6) (S := fun w' => w'.cell? ⟨B0, 0, none⟩ = some (.slice A l.length c) ∧ w'.cell? ⟨B1, 0, none⟩ = some (.int .i64 vars)) (ds := [4]) #[false, false, false, false, false, false] (by kernel_rfl) rfl rfl ⟨hc0, hc1⟩ (fun hHeld => ?_)
 have HBD := am_ (show Below w.heap.size w w.drew from below_drew (Below.refl _ _))
 clear hc0 hc1
 generalize w.drew = w9 at HBD hHeld ⊢
 refine take_ (i := 0) (N := some 5) (v := ?_) (a' := ?_) #[true, false, false, false, false, false] rfl rfl (by kernel_rfl) (fun _ _ _ h => h) (Or.inl ⟨by rfl, ?_⟩) hHeld ?_ ?_
 rotate_left
 ·rintro w' ⟨s0, s1⟩
  go_simp
  with_reducible rfl
 rotate_left
 ·simp only [Act.put, List.setIfInBounds_toArray, List.set_cons_zero, List.set_cons_succ, i64_w, i32_w]
  rfl
 refine take_ (i := 1) (N := some 6) (v := ?_) (a' := ?_) #[true, true, false, false, false, false] rfl rfl (by kernel_rfl) (fun _ _ _ h => h) (Or.inl ⟨by rfl, ?_⟩) hHeld ?_ ?_
 rotate_left
 ·rintro w' ⟨s0, s1⟩
  go_simp
  with_reducible rfl
 rotate_left
 ·simp only [Act.put, List.setIfInBounds_toArray, List.set_cons_zero, List.set_cons_succ, i64_w, i32_w]
  rfl
 refine pure_ (i := 2) (N := some 7) (v := ?_) (a' := ?_) #[true, true, true, false, false, false] rfl rfl (by kernel_rfl) (fun _ _ _ h => h) (Or.inl ⟨by rfl, ?_⟩) ?_ ?_
 rotate_left
 ·intro w'
  go_simp
  with_reducible rfl
 rotate_left
 ·simp only [Act.put, List.setIfInBounds_toArray, List.set_cons_zero, List.set_cons_succ, i64_w, i32_w]
  rfl
 refine one_ (i := 3) (N := some 8) #[true, true, true, true, false, false] rfl rfl (by kernel_rfl) (by decide) (fun K hK => ?_)
 refine goes_ Try.func78 (by kernel_rfl) rfl #[.int .i64 vars, .int .i64 x] (by rfl) rfl rfl y27_ ?_
 refine (impl_model.calls k vars x m _ A7.out).mono ?_
 rintro e w10 ⟨v1, rfl, ho, hb⟩
 refine ⟨_, rfl, ?_⟩
 obtain ⟨Ao, co, eo⟩ := Kd.R_slice ho
 subst eo
 have HO := am_ ho
 have HBD2 := am_ (below_step HBD.out hb)
 refine hK.out _ _ ⟨pw_cell_below hb hHeld.1, pw_cell_below hb hHeld.2⟩ (fun hHeld2 => ?_)
 clear hK K hHeld hb ho
 refine norm_ (a' := ?_) ?_ ?_
 rotate_left
 ·show Act.put _ (some 8) _ = _
  simp only [Act.put, List.setIfInBounds_toArray, List.set_cons_zero, List.set_cons_succ, i64_w, i32_w]
  rfl
 refine last_ (i := 4) (N := some 9) #[true, true, true, true, true, false] rfl rfl (by kernel_rfl) (by decide) (fun K hK => ?_)
 refine goes_ Try.func77 (by kernel_rfl) rfl #[.slice A l.length c, .slice Ao m.length co] (by rfl) rfl rfl y27_ ?_
 refine (impl_holds.calls k A c l Ao co m v _ (Kd.C_below HR.out HBD2.out) HC.out (Kd.R_reads' HO.out).2.2 (Kd.R_reads' HO.out).2.1 A8.out).mono ?_
 rintro e w11 ⟨rfl, hb⟩
 have HBD3 := am_ (below_step HBD2.out hb)
 clear hb
 refine ⟨_, rfl, ?_⟩
 refine hK.out _ _ ?_
 clear hK K
 refine norm_ (a' := ?_) ?_ ?_
 rotate_left
 ·show Act.put _ (some 9) _ = _
  simp only [Act.put, List.setIfInBounds_toArray, List.set_cons_zero, List.set_cons_succ, i64_w, i32_w]
  rfl
 refine pure_ (i := 5) (N := some 4) (v := ?_) (a' := ?_) #[true, true, true, true, true, true] rfl rfl (by kernel_rfl) (fun _ _ _ h => h) (Or.inl ⟨by rfl, ?_⟩) ?_ ?_
 rotate_left
 ·intro w'
  go_simp
  with_reducible rfl
 rotate_left
 ·simp only [Act.put, List.setIfInBounds_toArray, List.set_cons_zero, List.set_cons_succ, i64_w, i32_w]
  rfl
 refine done_ (by kernel_rfl) ?_
 go_wp2
 go_ret
 exact ⟨by first | rfl | (simp; done) | (simp [*]; done), by repeat (first | exact HBD3.out | apply pw_below_drewN | apply below_drew1)⟩
def impl_ByClauses.ml : Nat → (Int → Option Bool) → Int → List Bool → Int → Option (List Bool)
 | 0, _, _, _, _ => none
 | k + 1, p, N, out, i => if i < N then ((p i).bind fun t => (if out.length < 17592186044416 then impl_ByClauses.ml k p N (out ++ [t]) (wrap64 (i + 1)) else none)) else some out
def impl_ByClauses.mapf (k : Nat) (p : Int → Option Bool) (vars : Int) : Option (Int × List S75 × Int) := if 0 ≤ vars then ((impl_ByClauses.ml k p (shl .i64 1 vars) [] 0).bind fun t => impl_diagram.f k vars t) else none
set_option maxHeartbeats 8000000 in
set_option maxRecDepth 100000 in
theorem impl_ByClauses.map_calls (k : Nat) (B0 B1 : Nat) (p : Int → Option Bool) (vars : Int) (r1 : Int) (r2 : List S75) (r3 : Int) (w : World)
  (hp : ∀ (W : World) (x : Int) (v : Bool), Below w.heap.size w W → p x = some v → Calls Try.prog 76 #[.int .i64 x, .pointer (some ⟨B0, 0, none⟩), .pointer (some ⟨B1, 0, none⟩)] W fun e w' => e = .returned (.bool v) ∧ Below W.heap.size W w')
  (h : impl_ByClauses.mapf k p vars = some (r1, r2, r3)) :
  Calls Try.prog 63 #[.int .i64 vars, .func (.func 76) #[] #[.pointer (some ⟨B0, 0, none⟩), .pointer (some ⟨B1, 0, none⟩)]] w fun e w' => ∃ v1_ : Value, e = .returned (.agg #[.int .i64 r1, v1_, .int .i64 r3]) ∧ Kd.R k75 75 w' w.heap.size (fun _ => True) v1_ r2 ∧ Below w.heap.size w w' := by
 have hu30 := Try.underlying30
 have HP := am_ hp
 clear hp
 have HB := am_ (Below.refl w.heap.size w)
 unfold impl_ByClauses.mapf at h
 by_cases c0 : 0 ≤ vars
 ·rw [if_pos c0] at h
  have c0b := eq_true c0
  have c0d : decide (0 ≤ vars) = true := decide_eq_true c0
  clear c0
  obtain ⟨ji, hji⟩ : ∃ j_ : Int, (shl .i64 1 vars) = j_ := ⟨_, rfl⟩
  have hji_ : (IntKind.i64.wrap (1 * 2 ^ min vars.toNat 64)) = ji := hji
  have hjiz : vars ≤ 64 → (IntKind.i64.wrap (1 * 2 ^ vars.toNat)) = ji := shl_small hji
  have hjiu : (IntKind.i64.wrap (2 ^ min vars.toNat 64)) = ji := by have h_ := hji_; rw [Int.one_mul] at h_; exact h_
  have hjiv : vars ≤ 64 → (IntKind.i64.wrap (2 ^ vars.toNat)) = ji := fun hle_ => by have h_ := hjiz hle_; rw [Int.one_mul] at h_; exact h_
  have hjiy : (wrap64 (1 * 2 ^ min vars.toNat 64)) = ji := (i64_w _).symm.trans hji_
  have hjix : vars ≤ 64 → (wrap64 (1 * 2 ^ vars.toNat)) = ji := fun h_ => (i64_w _).symm.trans (hjiz h_)
  rw [hji] at h
  obtain ⟨tt, A10, h1⟩ := Option.bind_eq_some_iff.mp h
  have A1 := am_ A10
  have A2 := am_ h1
  clear A10 h h1
  have eg := fun args w => enters_ (P := Try.prog) Try.func76 (by kernel_rfl) rfl args w
  go_enter Try.func63, Try.ntmps63
  go_wp2_with ((with_reducible refine gate_dst (N := 4) rfl ?_); refine boxq_ (N := 4) (cs := #[.int .i64 0, .slice none 0 0, .int .i64 0]) (t := 30) ?_; intro g4 hg w3 hbox hb; have n0_ := bs_ hb; have GE4 := am_ (y34_ : w.heap.size ≤ g4); clear HB; have HB := n0_; have BK4 := am_ hbox; clear n0_ hb hbox hg)
  go_loopg [5, 9] k (fun kq v5 v9 w' => ∃ (o : List Bool) (x : Int), v9 = .int .i64 x ∧ Aside0 (impl_ByClauses.ml kq p ji o x = some tt) ∧ Aside0 (kq ≤ k) ∧ Aside0 (Kd.R Kd.bool 4 w' w.heap.size (fun _ => True) v5 o) ∧ Aside0 (w'.heap[g4]? = some (.cells #[.int .i64 0, .slice none 0 0, .int .i64 0] 30 (0, 0))) ∧ Aside0 (Below w.heap.size w w'))
  case atStart => exact ⟨[], (0), y30_, A1, ⟨Nat.le_refl _⟩, ⟨Kd.R_nil _ _ _ _ _⟩, ⟨BK4.out⟩, ⟨bq_⟩⟩
  case round =>
   clear A1 HB BK4
   obtain ⟨o, x, rfl, HA, HK1, HO, BK4, HB⟩ := hrel
   cases gk with
   | zero => exact absurd HA.out (by simp [impl_ByClauses.ml])
   | succ k1 =>
    have H := HA.out
    clear HA
    simp only [impl_ByClauses.ml] at H
    by_cases c4 : x < ji
    ·rw [if_pos c4] at H
     have c4b0 : decide (x < ji) = true := decide_eq_true c4
     clear c4
     obtain ⟨t, A70, H⟩ := Option.bind_eq_some_iff.mp H
     have A7 := am_ A70
     clear A70
     by_cases c12 : o.length < 17592186044416
     ·rw [if_pos c12] at H
      have LMc12 := am_ c12
      clear c12
      have H' := am_ H
      clear H
      go_wp2_with (first | (go_at_call 76; refine (HP.out _ x t (bq_) A7.out).mono ?_; rintro e w6 ⟨rfl, hb⟩; replace HB := bs_ hb; replace HO := am_ (Kd.R_below (rq_ HO.out) hb); replace BK4 := bb_ BK4 hb; clear hb) | ((with_reducible refine gate_builtin (b := .append) (xs := #[.tmp 12, .tmp 16]) rfl ?_); at_builtin; refine Kd.R_append Kd.bool (w0 := w) w.heap.size rfl (.tmp 12) (.tmp 16) 34 4 (.bool false) 1 rfl Try.underlying34 info4 rfl (by decide) (by omega) u5 o t [.bool t] (fun _ => True) (fun _ => False) rfl rfl ?aP (fun _ hk => hk.elim) ?aF ?aO ?aB ?aS ?aL ?_; (case aP => exact rfl); (case aB => exact (bq_)); (case aF => exact (fun _ _ => trivial)); (case aO => exact (rq_ HO.out)); (case aS => exact (below_size (bq_))); (case aL => have := LMc12.out; omega); intro v121 w13 ho hb hg hat; have n2_ := am_ (blk_grown BK4.out hg (Kd.R_ne HO.out BK4.out (by decide))); have n0_ := am_ hb; have n1_ := am_ ho; clear HB HO BK4; have HB := n0_; have HO := n1_; have BK4 := n2_; clear n0_ n1_ n2_ ho hb hg hat))
      go_roundg k1
      case measure => have := HK1.out; omega
      case rel => exact ⟨_, (wrap64 (x + 1)), y30_, H', ⟨by have := HK1.out; omega⟩, ⟨rq_ HO.out⟩, ⟨bk_ BK4.out⟩, ⟨bq_⟩⟩
     ·rw [if_neg c12] at H
      exact absurd H (by simp)
    ·rw [if_neg c4] at H
     have c4b0 : decide (x < ji) = false := decide_eq_false c4
     clear c4
     obtain rfl := Option.some.inj H
     clear H
     obtain ⟨At, ct, et⟩ := Kd.R_slice HO.out
     subst et
     go_wp2_with (go_at_call 84; refine (impl_diagram.calls k vars _ _ o r1 r2 r3 _ (cm_ (Kd.R_reads' HO.out).2.2) (Kd.R_reads' HO.out).2.1 A2.out).mono ?_; rintro e w7 ⟨v1, rfl, ho, hb⟩; have NV := am_ (show v1.ownBlock ≠ some g4 from fun he => by have := Kd.R_base ho g4 he; have := blk_lt BK4.out; omega); replace BK4 := am_ (blk_below BK4.out hb); replace HO := am_ (Kd.R_lower ho (below_size (bq_))); replace HB := bs_ hb; clear ho hb; obtain ⟨Ao, co, eo⟩ := Kd.R_slice HO.out; subst eo; have hcy0 := cq_ BK4.out 0 (.int .i64 0); have hcy1 := cq_ BK4.out 1 (.slice none 0 0); have hcy2 := cq_ BK4.out 2 (.int .i64 0); have hfy0 := blk_frozen BK4.out 0; have hfy1 := blk_frozen BK4.out 1; have hfy2 := blk_frozen BK4.out 2)
     refine bodyPost_ret (results_cell_row rfl _ _ g4 30 #[.int .i64 r1, (.slice Ao r2.length co), .int .i64 r3] (0, 0) _ rfl (blk_put (cs := #[.int .i64 r1, (.slice Ao r2.length co), .int .i64 0]) (cs' := #[.int .i64 r1, (.slice Ao r2.length co), .int .i64 r3]) (blk_put (cs := #[.int .i64 r1, .slice none 0 0, .int .i64 0]) (cs' := #[.int .i64 r1, (.slice Ao r2.length co), .int .i64 0]) (blk_put (cs := #[.int .i64 0, .slice none 0 0, .int .i64 0]) (cs' := #[.int .i64 r1, .slice none 0 0, .int .i64 0]) (BK4.out) 0 (.int .i64 r1) rfl) 1 ((.slice Ao r2.length co)) rfl) 2 (.int .i64 r3) rfl) Try.underlying30 rfl (by kernel_rfl)) rfl ?_
     exact ⟨_, by first | rfl | (simp; done) | (simp [*]; done), Kd.R_mono (Kd.R_far (p := ⟨g4, 2, none⟩) (Kd.R_far (p := ⟨g4, 1, none⟩) (Kd.R_far (p := ⟨g4, 0, none⟩) (impl_Diagram_build.flat (show Kd.R k75 75 w7 w.heap.size (fun _ => True) (.slice Ao r2.length co) r2 from HO.out) (ok' := fun k => k ≠ g4) (fun k hk _ => fun he => NV.out (by rw [hk, he]))) (fun k h => h) (.int .i64 r1)) (fun k h => h) ((.slice Ao r2.length co))) (fun k h => h) (.int .i64 r3)) (fun _ _ => trivial), below_set (j := 2) (v := (.int .i64 r3)) (below_set (j := 1) (v := ((.slice Ao r2.length co))) (below_set (j := 0) (v := (.int .i64 r1)) (HB.out) GE4.out) GE4.out) GE4.out⟩
 ·rw [if_neg c0] at h
  exact absurd h (by simp)
def impl_ByClauses.f (k : Nat) (a0 : Int) (l0 : List (List Int)) : Option (Int × (List (S75)) × Int × Bool) := (impl_GoodClauses.f k a0 l0).bind fun g => if g = true then (if a0 > 6 then some (0, ([] : List (S75)), 0, false) else ((impl_ByClauses.mapf k (impl_ByClauses.pr k l0 a0) a0).bind fun x => some (x.1, x.2.1, x.2.2, true))) else some (0, ([] : List (S75)), 0, false)
set_option maxHeartbeats 8000000 in
set_option maxRecDepth 100000 in
theorem impl_ByClauses.calls (k : Nat) (a0 : Int) (A0 : Option Addr) (c0 : Nat) (l0 : List (List Int)) (r1 : Int) (r2 : List (S75)) (r3 : Int) (r4 : Bool) (w : World) (hr0 : Kd.C (Kd.slice 3 (Kd.int .i64)) w A0 l0.length l0) (hc0 : l0.length ≤ c0) (h : impl_ByClauses.f k a0 l0 = some (r1, r2, r3, r4)) :
  Calls Try.prog 36 #[.int .i64 a0, .slice A0 l0.length c0] w fun e w' => ∃ v1_ : Value, e = .returned (.tuple #[.agg #[.int .i64 r1, v1_, .int .i64 r3], .bool r4]) ∧ Kd.R k75 75 w' w.heap.size (fun _ => True) v1_ r2 ∧ Below w.heap.size w w' := by
 have hu30 := Try.underlying30
 have HR0 := am_ hr0
 have HC0 := am_ hc0
 have HB := am_ (Below.refl w.heap.size w)
 obtain ⟨g, A10, h1⟩ := Option.bind_eq_some_iff.mp h
 have AG := am_ A10
 clear hr0 hc0 A10 h
 by_cases c8 : g = true
 ·subst c8
  rw [if_pos rfl] at h1
  by_cases c9 : a0 > 6
  ·rw [if_pos c9] at h1
   have c9b : decide (a0 > 6) = true := decide_eq_true c9
   clear c9
   simp only [Option.some.injEq, Prod.mk.injEq] at h1
   obtain ⟨rfl, rfl, rfl, rfl⟩ := h1
   go_enter Try.func36, Try.ntmps36
   go_wp2_with (first | ((with_reducible refine gate_dst (N := 2) rfl ?_); refine boxq_ (N := 2) (cs := #[.int .i64 a0]) (t := 3) ?_; intro g1 hg w1 hbox hb; have GEg1 := am_ (y34_ : w.heap.size ≤ g1); have n0_ := bs_ hb; clear HB; have HB := n0_; have BK1 := am_ hbox; clear n0_ hb hbox hg) | ((with_reducible refine gate_dst (N := 3) rfl ?_); refine boxq_ (N := 3) (cs := #[.slice A0 l0.length c0]) (t := 50) ?_; intro g2 hg w2 hbox hb; have GEg2 := am_ (y34_ : w.heap.size ≤ g2); have NEg1g2 := am_ (y31_ : g1 ≠ g2); have mBK1_ := am_ (blk_below BK1.out hb); have n0_ := bs_ hb; clear HB BK1; have HB := n0_; have BK1 := mBK1_; clear mBK1_; have BK2 := am_ hbox; clear n0_ hb hbox hg) | ((with_reducible refine gate_dst (N := 4) rfl ?_); refine boxq_ (N := 4) (cs := #[.int .i64 0, .slice none 0 0, .int .i64 0]) (t := 30) ?_; intro g3 hg w3 hbox hb; have GEg3 := am_ (y34_ : w.heap.size ≤ g3); have NEg1g3 := am_ (y31_ : g1 ≠ g3); have mBK1_ := am_ (blk_below BK1.out hb); have NEg2g3 := am_ (y32_ : g2 ≠ g3); have mBK2_ := am_ (blk_below BK2.out hb); have n0_ := bs_ hb; clear HB BK1 BK2; have HB := n0_; have BK1 := mBK1_; clear mBK1_; have BK2 := mBK2_; clear mBK2_; have BR := am_ hbox; clear n0_ hb hbox hg; have hcv0 := cq_ BK1.out 0 (.int .i64 a0); have hcl0 := cq_ BK2.out 0 (.slice A0 l0.length c0); have hcy0 := cq_ BR.out 0 (.int .i64 0); have hcy1 := cq_ BR.out 1 (.slice none 0 0); have hcy2 := cq_ BR.out 2 (.int .i64 0); have hfy0 := blk_frozen BR.out 0; have hfy1 := blk_frozen BR.out 1; have hfy2 := blk_frozen BR.out 2) | (have t_ := AG; go_at_call 75; refine (impl_GoodClauses.calls k a0 A0 c0 l0 true _ y21_ HC0.out AG.out).mono ?_; rintro e w4 ⟨rfl, hb⟩; have mBK1_ := bb_ BK1 hb; have mBK2_ := bb_ BK2 hb; have mBR_ := bb_ BR hb; have n0_ := bs_ hb; clear HB BK1 BK2 BR; have HB := n0_; have BK1 := mBK1_; clear mBK1_; have BK2 := mBK2_; clear mBK2_; have BR := mBR_; clear mBR_; clear n0_ hb; clear AG t_; clear hcv0 hcl0 hcy0 hcy1 hcy2 hfy0 hfy1 hfy2; have hcv0 := cq_ BK1.out 0 (.int .i64 a0); have hcl0 := cq_ BK2.out 0 (.slice A0 l0.length c0); have hcy0 := cq_ BR.out 0 (.int .i64 0); have hcy1 := cq_ BR.out 1 (.slice none 0 0); have hcy2 := cq_ BR.out 2 (.int .i64 0); have hfy0 := blk_frozen BR.out 0; have hfy1 := blk_frozen BR.out 1; have hfy2 := blk_frozen BR.out 2))
   refine bodyPost_ret (results_ct rfl _ _ g3 30 #[.int .i64 0, .slice none 0 0, .int .i64 0] (0, 0) _ rfl (blk_put (cs := #[.int .i64 0, .slice none 0 0, .int .i64 0]) (cs' := #[.int .i64 0, .slice none 0 0, .int .i64 0]) (blk_put (cs := #[.int .i64 0, .slice none 0 0, .int .i64 0]) (cs' := #[.int .i64 0, .slice none 0 0, .int .i64 0]) (blk_put (cs := #[.int .i64 0, .slice none 0 0, .int .i64 0]) (cs' := #[.int .i64 0, .slice none 0 0, .int .i64 0]) ((bk_ BR.out)) 0 (.int .i64 0) rfl) 1 (.slice none 0 0) rfl) 2 (.int .i64 0) rfl) Try.underlying30 rfl (by kernel_rfl)) rfl ?_
   exact ⟨_, by first | rfl | (simp; done) | (simp [*]; done), Kd.R_nil _ _ _ _ _, below_set (j := 2) (v := (.int .i64 0)) (below_set (j := 1) (v := (.slice none 0 0)) (below_set (j := 0) (v := (.int .i64 0)) ((bq_)) GEg3.out) GEg3.out) GEg3.out⟩
  ·rw [if_neg c9] at h1
   have c9b : decide (a0 > 6) = false := decide_eq_false c9
   clear c9
   obtain ⟨⟨x1, x2, x3⟩, A10, h2⟩ := Option.bind_eq_some_iff.mp h1
   have AM := am_ A10
   clear A10 h1
   simp only [Option.some.injEq, Prod.mk.injEq] at h2
   obtain ⟨rfl, rfl, rfl, rfl⟩ := h2
   go_enter Try.func36, Try.ntmps36
   go_wp2_with (first | ((with_reducible refine gate_dst (N := 2) rfl ?_); refine boxq_ (N := 2) (cs := #[.int .i64 a0]) (t := 3) ?_; intro g1 hg w1 hbox hb; have GEg1 := am_ (y34_ : w.heap.size ≤ g1); have n0_ := bs_ hb; clear HB; have HB := n0_; have BK1 := am_ hbox; clear n0_ hb hbox hg) | ((with_reducible refine gate_dst (N := 3) rfl ?_); refine boxq_ (N := 3) (cs := #[.slice A0 l0.length c0]) (t := 50) ?_; intro g2 hg w2 hbox hb; have GEg2 := am_ (y34_ : w.heap.size ≤ g2); have NEg1g2 := am_ (y31_ : g1 ≠ g2); have mBK1_ := am_ (blk_below BK1.out hb); have n0_ := bs_ hb; clear HB BK1; have HB := n0_; have BK1 := mBK1_; clear mBK1_; have BK2 := am_ hbox; clear n0_ hb hbox hg) | ((with_reducible refine gate_dst (N := 4) rfl ?_); refine boxq_ (N := 4) (cs := #[.int .i64 0, .slice none 0 0, .int .i64 0]) (t := 30) ?_; intro g3 hg w3 hbox hb; have GEg3 := am_ (y34_ : w.heap.size ≤ g3); have NEg1g3 := am_ (y31_ : g1 ≠ g3); have mBK1_ := am_ (blk_below BK1.out hb); have NEg2g3 := am_ (y32_ : g2 ≠ g3); have mBK2_ := am_ (blk_below BK2.out hb); have n0_ := bs_ hb; clear HB BK1 BK2; have HB := n0_; have BK1 := mBK1_; clear mBK1_; have BK2 := mBK2_; clear mBK2_; have BR := am_ hbox; clear n0_ hb hbox hg; have hcv0 := cq_ BK1.out 0 (.int .i64 a0); have hcl0 := cq_ BK2.out 0 (.slice A0 l0.length c0); have hcy0 := cq_ BR.out 0 (.int .i64 0); have hcy1 := cq_ BR.out 1 (.slice none 0 0); have hcy2 := cq_ BR.out 2 (.int .i64 0); have hfy0 := blk_frozen BR.out 0; have hfy1 := blk_frozen BR.out 1; have hfy2 := blk_frozen BR.out 2) | (have t_ := AG; go_at_call 75; refine (impl_GoodClauses.calls k a0 A0 c0 l0 true _ y21_ HC0.out AG.out).mono ?_; rintro e w4 ⟨rfl, hb⟩; have mBK1_ := bb_ BK1 hb; have mBK2_ := bb_ BK2 hb; have mBR_ := bb_ BR hb; have n0_ := bs_ hb; clear HB BK1 BK2 BR; have HB := n0_; have BK1 := mBK1_; clear mBK1_; have BK2 := mBK2_; clear mBK2_; have BR := mBR_; clear mBR_; clear n0_ hb; clear AG t_; clear hcv0 hcl0 hcy0 hcy1 hcy2 hfy0 hfy1 hfy2; have hcv0 := cq_ BK1.out 0 (.int .i64 a0); have hcl0 := cq_ BK2.out 0 (.slice A0 l0.length c0); have hcy0 := cq_ BR.out 0 (.int .i64 0); have hcy1 := cq_ BR.out 1 (.slice none 0 0); have hcy2 := cq_ BR.out 2 (.int .i64 0); have hfy0 := blk_frozen BR.out 0; have hfy1 := blk_frozen BR.out 1; have hfy2 := blk_frozen BR.out 2) | (go_at_call 63; refine (impl_ByClauses.map_calls k g2 g1 (impl_ByClauses.pr k l0 a0) a0 x1 x2 x3 _ (fun W x v hbW hv => impl_ByClauses.pr_calls k g2 g1 A0 c0 l0 a0 x v W (blk_below (bk_ BK2.out) hbW) (blk_below (bk_ BK1.out) hbW) (Kd.C_below (Kd.C_below HR0.out (bq_)) hbW) HC0.out hv) AM.out).mono ?_; rintro e w7 ⟨v1, rfl, ho, hb⟩; have NV := am_ (show v1.ownBlock ≠ some g3 from fun he => by have := Kd.R_base ho g3 he; have := blk_lt (show w4.heap[g3]? = _ from bk_ BR.out); omega); replace BR := bb_ BR hb; have HO := am_ (Kd.R_lower ho (below_size (bq_))); replace HB := bs_ hb; clear ho hb; obtain ⟨Ao, co, eo⟩ := Kd.R_slice HO.out; subst eo; clear hcy0 hcy1 hcy2 hfy0 hfy1 hfy2; have hcy0 := cq_ BR.out 0 (.int .i64 0); have hcy1 := cq_ BR.out 1 (.slice none 0 0); have hcy2 := cq_ BR.out 2 (.int .i64 0); have hfy0 := blk_frozen BR.out 0; have hfy1 := blk_frozen BR.out 1; have hfy2 := blk_frozen BR.out 2))
   refine bodyPost_ret (results_ct rfl _ _ g3 30 #[.int .i64 x1, (.slice Ao x2.length co), .int .i64 x3] (0, 0) _ rfl (blk_put (cs := #[.int .i64 x1, (.slice Ao x2.length co), .int .i64 0]) (cs' := #[.int .i64 x1, (.slice Ao x2.length co), .int .i64 x3]) (blk_put (cs := #[.int .i64 x1, .slice none 0 0, .int .i64 0]) (cs' := #[.int .i64 x1, (.slice Ao x2.length co), .int .i64 0]) (blk_put (cs := #[.int .i64 0, .slice none 0 0, .int .i64 0]) (cs' := #[.int .i64 x1, .slice none 0 0, .int .i64 0]) (BR.out) 0 (.int .i64 x1) rfl) 1 ((.slice Ao x2.length co)) rfl) 2 (.int .i64 x3) rfl) Try.underlying30 rfl (by kernel_rfl)) rfl ?_
   exact ⟨_, by first | rfl | (simp; done) | (simp [*]; done), Kd.R_mono (Kd.R_far (p := ⟨g3, 2, none⟩) (Kd.R_far (p := ⟨g3, 1, none⟩) (Kd.R_far (p := ⟨g3, 0, none⟩) (impl_Diagram_build.flat (show Kd.R k75 75 w7 w.heap.size (fun _ => True) (.slice Ao x2.length co) x2 from HO.out) (ok' := fun k => k ≠ g3) (fun k hk _ => fun he => NV.out (by rw [hk, he]))) (fun k h => h) (.int .i64 x1)) (fun k h => h) ((.slice Ao x2.length co))) (fun k h => h) (.int .i64 x3)) (fun _ _ => trivial), below_set (j := 2) (v := (.int .i64 x3)) (below_set (j := 1) (v := ((.slice Ao x2.length co))) (below_set (j := 0) (v := (.int .i64 x1)) (HB.out) GEg3.out) GEg3.out) GEg3.out⟩
 ·replace c8 := Bool.eq_false_iff.mpr c8
  subst c8
  rw [if_neg (by simp)] at h1
  simp only [Option.some.injEq, Prod.mk.injEq] at h1
  obtain ⟨rfl, rfl, rfl, rfl⟩ := h1
  go_enter Try.func36, Try.ntmps36
  go_wp2_with (first | ((with_reducible refine gate_dst (N := 2) rfl ?_); refine boxq_ (N := 2) (cs := #[.int .i64 a0]) (t := 3) ?_; intro g1 hg w1 hbox hb; have GEg1 := am_ (y34_ : w.heap.size ≤ g1); have n0_ := bs_ hb; clear HB; have HB := n0_; have BK1 := am_ hbox; clear n0_ hb hbox hg) | ((with_reducible refine gate_dst (N := 3) rfl ?_); refine boxq_ (N := 3) (cs := #[.slice A0 l0.length c0]) (t := 50) ?_; intro g2 hg w2 hbox hb; have GEg2 := am_ (y34_ : w.heap.size ≤ g2); have NEg1g2 := am_ (y31_ : g1 ≠ g2); have mBK1_ := am_ (blk_below BK1.out hb); have n0_ := bs_ hb; clear HB BK1; have HB := n0_; have BK1 := mBK1_; clear mBK1_; have BK2 := am_ hbox; clear n0_ hb hbox hg) | ((with_reducible refine gate_dst (N := 4) rfl ?_); refine boxq_ (N := 4) (cs := #[.int .i64 0, .slice none 0 0, .int .i64 0]) (t := 30) ?_; intro g3 hg w3 hbox hb; have GEg3 := am_ (y34_ : w.heap.size ≤ g3); have NEg1g3 := am_ (y31_ : g1 ≠ g3); have mBK1_ := am_ (blk_below BK1.out hb); have NEg2g3 := am_ (y32_ : g2 ≠ g3); have mBK2_ := am_ (blk_below BK2.out hb); have n0_ := bs_ hb; clear HB BK1 BK2; have HB := n0_; have BK1 := mBK1_; clear mBK1_; have BK2 := mBK2_; clear mBK2_; have BR := am_ hbox; clear n0_ hb hbox hg; have hcv0 := cq_ BK1.out 0 (.int .i64 a0); have hcl0 := cq_ BK2.out 0 (.slice A0 l0.length c0); have hcy0 := cq_ BR.out 0 (.int .i64 0); have hcy1 := cq_ BR.out 1 (.slice none 0 0); have hcy2 := cq_ BR.out 2 (.int .i64 0); have hfy0 := blk_frozen BR.out 0; have hfy1 := blk_frozen BR.out 1; have hfy2 := blk_frozen BR.out 2) | (have t_ := AG; go_at_call 75; refine (impl_GoodClauses.calls k a0 A0 c0 l0 false _ y21_ HC0.out AG.out).mono ?_; rintro e w4 ⟨rfl, hb⟩; have mBK1_ := bb_ BK1 hb; have mBK2_ := bb_ BK2 hb; have mBR_ := bb_ BR hb; have n0_ := bs_ hb; clear HB BK1 BK2 BR; have HB := n0_; have BK1 := mBK1_; clear mBK1_; have BK2 := mBK2_; clear mBK2_; have BR := mBR_; clear mBR_; clear n0_ hb; clear AG t_; clear hcv0 hcl0 hcy0 hcy1 hcy2 hfy0 hfy1 hfy2; have hcv0 := cq_ BK1.out 0 (.int .i64 a0); have hcl0 := cq_ BK2.out 0 (.slice A0 l0.length c0); have hcy0 := cq_ BR.out 0 (.int .i64 0); have hcy1 := cq_ BR.out 1 (.slice none 0 0); have hcy2 := cq_ BR.out 2 (.int .i64 0); have hfy0 := blk_frozen BR.out 0; have hfy1 := blk_frozen BR.out 1; have hfy2 := blk_frozen BR.out 2))
  refine bodyPost_ret (results_ct rfl _ _ g3 30 #[.int .i64 0, .slice none 0 0, .int .i64 0] (0, 0) _ rfl (blk_put (cs := #[.int .i64 0, .slice none 0 0, .int .i64 0]) (cs' := #[.int .i64 0, .slice none 0 0, .int .i64 0]) (blk_put (cs := #[.int .i64 0, .slice none 0 0, .int .i64 0]) (cs' := #[.int .i64 0, .slice none 0 0, .int .i64 0]) (blk_put (cs := #[.int .i64 0, .slice none 0 0, .int .i64 0]) (cs' := #[.int .i64 0, .slice none 0 0, .int .i64 0]) ((bk_ BR.out)) 0 (.int .i64 0) rfl) 1 (.slice none 0 0) rfl) 2 (.int .i64 0) rfl) Try.underlying30 rfl (by kernel_rfl)) rfl ?_
  exact ⟨_, by first | rfl | (simp; done) | (simp [*]; done), Kd.R_nil _ _ _ _ _, below_set (j := 2) (v := (.int .i64 0)) (below_set (j := 1) (v := (.slice none 0 0)) (below_set (j := 0) (v := (.int .i64 0)) ((bq_)) GEg3.out) GEg3.out) GEg3.out⟩
end Go.Proofs.Ytpndhlcbfobelaa.PDX
