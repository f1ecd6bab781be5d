import Derived.Test.YtgahidilhjijiaaPGTx0
import Derived.Test.YtgahidilhjijiaaPGTx3
import Derived.Test.YtgahidilhjijiaaPGTx4
import Derived.Test.YtgahidilhjijiaaPGTx5
namespace Go.Proofs.Ytgahidilhjijiaa.PGT
open Go.RowKit Go.Proofs.YtgahidilhjijiaaW.PrintWords Go.Proofs.YtgahidilhjijiaaW.PrintLast Go.Proofs.YtgahidilhjijiaaW.PrintMore
attribute [local go_sem] max2_int min2_int max_two min_two max_three min_three max_four min_four   -- for this text's walks alone
set_option linter.unusedVariables false
set_option linter.unusedSimpArgs false
def impl_model.l0 : Nat → Int → List Bool → Int → Int → Option (List Bool)
 | 0, _, _, _, _ => none
 | k + 1, x1, x5, x10, x11 => if x11 < x10 then (if 0 ≤ x11 then (if x11 < (x5.length : Int) then (impl_model.l0 k x1 (x5.set (x11 : Int).toNat ((Go.bits .and .i64 (shr .i64 x1 x11) 1) == 1)) x10 (wrap64 (x11 + 1))) else (none)) else (none)) else (some x5)
def impl_model.f (k : Nat) (a0 : Int) (a1 : Int) : Option (List Bool) := if 0 ≤ a0 then (if (a0 : Int).toNat ≤ 281474976710656 then ((some (List.replicate (a0 : Int).toNat false : List Bool)).bind fun y333 => (impl_model.l0 k a1 y333 (y333.length : Int) 0)) else (none)) else (none)
set_option maxHeartbeats 8000000 in
set_option maxRecDepth 100000 in
theorem impl_model.calls (k : Nat) (a0 : Int) (a1 : Int) (r : List Bool) (w : World) (h : impl_model.f k a0 a1 = some r) :
  Calls Try.prog 61 #[.int .i64 a0, .int .i64 a1] w fun e w' => ∃ v0_ : Value, e = .returned (v0_) ∧ Kd.R Kd.bool 4 w' w.heap.size (fun _ => True) v0_ r ∧ Below w.heap.size w w' := by
 have HB := am_ (Below.refl w.heap.size w)
 have H : (if 0 ≤ a0 then (if (a0 : Int).toNat ≤ 281474976710656 then ((some (List.replicate (a0 : Int).toNat false : List Bool)).bind fun y333 => (impl_model.l0 k a1 y333 (y333.length : Int) 0)) else (none)) else (none)) = some r := h
 clear h
 by_cases c3 : 0 ≤ a0
 ·rw [if_pos c3] at H
  have c3b0 := eq_true c3
  have c3b1 : decide (0 ≤ a0) = true := decide_eq_true c3
  clear c3
  by_cases c4 : (a0 : Int).toNat ≤ 281474976710656
  ·rw [if_pos c4] at H
   have c4b0 := eq_true c4
   have c4b1 : decide ((a0 : Int).toNat ≤ 281474976710656) = true := decide_eq_true c4
   clear c4
   obtain ⟨y333, hy333⟩ : ∃ y_ : List Bool, y_ = (List.replicate (a0 : Int).toNat false) := ⟨_, rfl⟩
   replace H : (impl_model.l0 k a1 y333 (y333.length : Int) 0) = some r := by first | (rw [hy333]; with_reducible exact H) | (have H2_ := (Option.bind_some _ _).symm.trans H; rw [hy333]; with_reducible exact H2_) | (have H2_ := (Option.bind_some _ _).symm.trans H; with_reducible exact H2_) | with_reducible exact H | (rw [hy333]; exact H) | exact H
   have Ny333 := am_ hy333
   clear hy333
   have H' := am_ H
   clear H
   go_enter Try.func61, Try.ntmps61
   go_wp2_with (first | ((with_reducible refine gate_dst (N := 8) rfl ?_); refine Kd.R_make Kd.bool _ 4 rfl (N := 8) rfl 37 _ _ rfl a0 rfl rfl Try.underlying37 (.bool false) 1 info4 rfl (by decide) (by omega) false (ok := fun _ => True) (okp := fun _ => True) rfl (fun _ hk => hk) trivial (od_) (Nat.le_trans (Nat.mul_le_mul_right _ (od_ : a0.toNat ≤ 281474976710656)) (by omega)) (Below.refl _ _) (Nat.le_refl _) ?_; intro v334 w5 ho6 hb hg_ hnew_; clear hg_ hnew_; (first | rw [← Ny333.out] at ho6 | (simp only [Int.reduceToNat] at ho6; rw [← Ny333.out] at ho6)); have HO335 := am_ (Kd.R_lower ho6 (below_size (bq_))); replace HB := bs_ hb; clear hb ho6; obtain ⟨Ao7, co7, eo7⟩ := Kd.R_slice HO335.out; subst eo7))
   go_loopg [11] k (fun kq v11 w' => ∃ (x5_1 : List Bool) (x11_1 : Int), v11 = .int .i64 x11_1 ∧ Aside0 (impl_model.l0 kq a1 x5_1 (y333.length : Int) x11_1 = some r) ∧ Aside0 (kq ≤ k) ∧ Aside0 (Kd.R Kd.bool 4 w' w.heap.size (fun _ => True) (.slice Ao7 y333.length co7) x5_1) ∧ Aside0 (Below w.heap.size w w'))
   case atStart => exact ⟨(y333), (0), y53_, H', ⟨Nat.le_refl _⟩, ⟨rq_ HO335.out⟩, ⟨bq_⟩⟩
   case round =>
    clear H'
    try clear p2
    try clear c3
    try clear c3b0
    try clear c3b1
    try clear c4
    try clear c4b0
    try clear c4b1
    try clear c6
    obtain ⟨x5_1, x11_1, rfl, HA, HK1, HO_5, HB⟩ := hrel
    have hl5_1 := (Kd.R_reads' HO_5.out).1
    rw [hl5_1] at HO_5
    (try simp only [hl5_1])
    cases gk with
    | zero => exact absurd HA.out (by simp [impl_model.l0])
    | succ k1 =>
     have H := HA.out
     clear HA
     simp only [impl_model.l0] at H
     by_cases c8 : x11_1 < (y333.length : Int)
     ·rw [if_pos c8] at H
      have c8b0 : decide (x11_1 < (y333.length : Int)) = true := decide_eq_true c8
      (try (have c8hhl5_1 := c8b0; simp only [hl5_1] at c8hhl5_1))
      clear c8
      by_cases c9 : 0 ≤ x11_1
      ·rw [if_pos c9] at H
       have c9b0 := eq_true c9
       have c9b1 : decide (0 ≤ x11_1) = true := decide_eq_true c9
       clear c9
       obtain ⟨ji10, hji10⟩ : ∃ j_ : Int, (shr .i64 a1 x11_1) = j_ := ⟨_, rfl⟩
       replace H : (if x11_1 < (x5_1.length : Int) then (impl_model.l0 k1 a1 (x5_1.set (x11_1 : Int).toNat ((Go.bits .and .i64 (ji10) 1) == 1)) (y333.length : Int) (wrap64 (x11_1 + 1))) else (none)) = some r := by first | (rw [hji10] at H; exact H) | (simp only [hji10] at H ⊢; exact H)
       have hji10_ : (a1 / 2 ^ min x11_1.toNat 64) = ji10 := hji10
       have hji10z : x11_1 ≤ 64 → (a1 / 2 ^ x11_1.toNat) = ji10 := shr_small hji10
       by_cases c11 : x11_1 < (x5_1.length : Int)
       ·rw [if_pos c11] at H
        have c11b0 : decide (x11_1 < (x5_1.length : Int)) = true := decide_eq_true c11
        (try (have c11hhl5_1 := c11b0; simp only [hl5_1] at c11hhl5_1))
        clear c11
        obtain ⟨y336, hy336⟩ : ∃ y_ : List Bool, y_ = (x5_1.set (x11_1 : Int).toNat ((Go.bits .and .i64 (ji10) 1) == 1)) := ⟨_, rfl⟩
        replace H : (impl_model.l0 k1 a1 y336 (y333.length : Int) (wrap64 (x11_1 + 1))) = some r := by first | (rw [hy336]; with_reducible exact H) | (have H2_ := (Option.bind_some _ _).symm.trans H; rw [hy336]; with_reducible exact H2_) | (have H2_ := (Option.bind_some _ _).symm.trans H; with_reducible exact H2_) | with_reducible exact H | (rw [hy336]; exact H) | exact H
        have Ny336 := am_ hy336
        clear hy336
        have H' := am_ H
        clear H
        have p12 : 0 ≤ (x11_1 : Int) := od_
        have q12 : (x11_1 : Int) < ((x5_1.length : Int) : Int) := od_
        obtain ⟨go12, co12, eo12, gb12, gl12, cl12, HG12⟩ := Kd.R_form HO_5.out (by omega)
        (first | cases eo12 | (injection eo12 with ea_ en_ ec_; (first | subst ea_ | (injection ea_ with ea_; subst ea_)); subst ec_; clear en_))
        have GB12 := am_ gb12
        have GG12 := am_ HG12
        clear gb12 gl12 HG12
        obtain ⟨hx12_0, hf12_0⟩ := Kd.R_celln false HO_5.out (x11_1 : Int) p12 q12
        replace p12 := eq_true p12
        replace q12 := eq_true q12
        have HP13 := Kd.R_putg HO_5.out (x11_1 : Int) ((Go.bits .and .i64 (ji10) 1) == 1)
        go_wp2_with (first | ((with_reducible refine gate_store (t := 4) (p := 21) rfl ?_); refine store_event (t := 4) (p := 21) (v := ?vo_w14) (w1 := (wr.setCell ⟨go12, (x11_1 : Int).toNat, none⟩ (.bool ((Go.bits .and .i64 (ji10) 1) == 1)))) ?hg ?ho ?hn ?hr ?_; (case ho => rfl); (case hg => rfl); (case hn => rfl); (case hr => first | (go_simp; done) | (go_simp; rfl)); intro w14 hw; have hg : wr.grownBy w14 (some go12) := (by rw [hw]; exact HP13.2); have hp_ : Kd.R Kd.bool 4 w14 w.heap.size (fun _ => True) (.slice (some ⟨go12, 0, none⟩) x5_1.length co7) y336 := (by rw [hw, Ny336.out]; exact HP13.1); clear HP13; replace HO_5 := am_ (hp_); replace HB := am_ ((by rw [hw]; exact below_set (HB.out) GB12.out : Below w.heap.size w w14)); clear hg hw hp_))
        (try simp only [← hl5_1])
        go_roundg k1
        case measure => have := HK1.out; omega
        case rel => exact ⟨(y336), (wrap64 (x11_1 + 1)), y53_, H', ⟨by have := HK1.out; omega⟩, ⟨by (try simp only [hl5_1]); (with_reducible repeat (first | apply Kd.R_alloc | apply Kd.R_drewN | apply Kd.R_drew)); exact HO_5.out⟩, ⟨bq_⟩⟩
       ·rw [if_neg c11] at H
        exact absurd H (by simp)
      ·rw [if_neg c9] at H
       exact absurd H (by simp)
     ·rw [if_neg c8] at H
      have c8b0 : decide (x11_1 < (y333.length : Int)) = false := decide_eq_false c8
      (try (have c8hhl5_1 := c8b0; simp only [hl5_1] at c8hhl5_1))
      clear c8
      obtain rfl := Option.some.inj H
      go_wp2
      go_ret
      exact ⟨_, by first | rfl | (simp [errW_none, errW_some] <;> rfl) | (simp [*, errW_none, errW_some] <;> rfl), rq_ HO_5.out, bq_⟩
  ·rw [if_neg c4] at H
   exact absurd H (by simp)
 ·rw [if_neg c3] at H
  exact absurd H (by simp)
def impl_output.f (k : Nat) (l0 : List (S69)) (l1 : List Bool) : Option (Bool) := (impl_eval.f k l0 l1).bind fun t337 => (if 0 ≤ (wrap64 ((l0.length : Int) - 1)) then (if (wrap64 ((l0.length : Int) - 1)) < (t337.length : Int) then (some (rdOf false t337 (wrap64 ((l0.length : Int) - 1)))) else (none)) else (none))
set_option maxHeartbeats 8000000 in
set_option maxRecDepth 100000 in
theorem impl_output.calls (k : Nat) (A0 : Option Addr) (c0 : Nat) (l0 : List (S69)) (A1 : Option Addr) (c1 : Nat) (l1 : List Bool) (r : Bool) (w : World) (hr0 : Kd.C k69 w A0 l0.length l0) (hc0 : l0.length ≤ c0) (hr1 : Kd.C Kd.bool w A1 l1.length l1) (hc1 : l1.length ≤ c1) (h : impl_output.f k l0 l1 = some r) :
  Calls Try.prog 62 #[.slice A0 l0.length c0, .slice A1 l1.length c1] w fun e w' => e = .returned (.bool r) ∧ Below w.heap.size w w' := by
 have HR0 := am_ hr0
 have HC0 := am_ hc0
 clear hr0 hc0
 have HR1 := am_ hr1
 have HC1 := am_ hc1
 clear hr1 hc1
 have HB := am_ (Below.refl w.heap.size w)
 have H : ((impl_eval.f k l0 l1).bind fun t337 => (if 0 ≤ (wrap64 ((l0.length : Int) - 1)) then (if (wrap64 ((l0.length : Int) - 1)) < (t337.length : Int) then (some (rdOf false t337 (wrap64 ((l0.length : Int) - 1)))) else (none)) else (none))) = some r := h
 clear h
 replace H := Option.bind_eq_some_iff.mp H
 obtain ⟨t337, A30, H⟩ := H
 replace H : (if 0 ≤ (wrap64 ((l0.length : Int) - 1)) then (if (wrap64 ((l0.length : Int) - 1)) < (t337.length : Int) then (some (rdOf false t337 (wrap64 ((l0.length : Int) - 1)))) else (none)) else (none)) = some r := H
 have A3 := am_ A30
 clear A30
 obtain ⟨ji4, hji4⟩ : ∃ j_ : Int, (wrap64 ((l0.length : Int) - 1)) = j_ := ⟨_, rfl⟩
 replace H : (if 0 ≤ (ji4) then (if (ji4) < (t337.length : Int) then (some (rdOf false t337 (ji4))) else (none)) else (none)) = some r := by first | (rw [hji4] at H; exact H) | (simp only [hji4] at H ⊢; exact H)
 (try rw [hji4] at A3)
 have hji4w : (IntKind.i64.wrap ((l0.length : Int) - 1)) = ji4 := (i64_w _).trans hji4
 by_cases c5 : 0 ≤ (ji4)
 ·rw [if_pos c5] at H
  have c5b0 : decide (0 ≤ (ji4)) = true := decide_eq_true c5
  clear c5
  by_cases c6 : (ji4) < (t337.length : Int)
  ·rw [if_pos c6] at H
   have c6b0 : decide ((ji4) < (t337.length : Int)) = true := decide_eq_true c6
   clear c6
   obtain rfl := Option.some.inj H
   go_enter Try.func62, Try.ntmps62
   go_wp2_with (first | ((with_reducible refine gl_ 55 rfl ?_); refine goesM_ (some 7) Try.func55 #[.slice A0 l0.length c0, .slice A1 l1.length c1] ?_; (with_reducible refine (impl_eval.calls k _ _ l0 (fun k_ => k_ < w.heap.size) _ _ l1 t337 _ ?side1 ?side2 ?side3 A3.out).mono ?_); (case side1 => exact cm_ HR0.out); (case side2 => exact HC0.out); (case side3 => exact Kd.V_mk HC1.out (Kd.F_below (Kd.C_F Kd.heap_bool HR1.out) (bq_))); rintro e w7 ⟨v338, rfl, ho0, hb⟩; refine ⟨_, rfl, ?_⟩; have HO339 := am_ (Kd.R_lower (Kd.R_mono (ok' := fun k_ => True) ho0 (fun _ hk_ => trivial)) (below_size (bq_))); replace HB := bs_ hb; (try clear hb); (try clear ho0); obtain ⟨Ao8, co8, eo8⟩ := Kd.R_slice HO339.out; subst eo8; have p340 : 0 ≤ ((ji4) : Int) := od_; have q340 : (ji4) < (t337.length : Int) := od_; obtain ⟨ad340, e340, hx340_0⟩ := Kd.at_bool (Kd.R_reads' HO339.out).2.2 (ji4) p340 q340; cases e340; replace p340 := eq_true p340; replace q340 := eq_true q340))
   go_ret
   exact ⟨by first | rfl | (simp [errW_none, errW_some] <;> rfl) | (simp only [← hji4]; first | rfl | (simp [errW_none, errW_some] <;> rfl)) | (simp [*, errW_none, errW_some] <;> rfl), bq_⟩
  ·rw [if_neg c6] at H
   exact absurd H (by simp)
 ·rw [if_neg c5] at H
  exact absurd H (by simp)
def impl_CanBe.l0 : Nat → List (S69) → Int → Int → Int → Option (Bool × List Bool × Bool)
 | 0, _, _, _, _ => none
 | k + 1, x0, x5, x15, x16 => if x16 < x15 then ((impl_model.f k x5 x16).bind fun t345 => ((impl_output.f k x0 t345).bind fun t348 => (if t348 = true then (some (true, t345, true)) else (impl_CanBe.l0 k x0 x5 x15 (wrap64 (x16 + 1)))))) else (some (false, ([] : List Bool), true))
def impl_CanBe.f (k : Nat) (l0 : List (S69)) : Option (Bool × List Bool × Bool) := (impl_GoodGates.f k l0).bind fun t341 => (if t341 = true then ((impl_inputs.f k l0).bind fun t342 => (impl_CanBe.l0 k l0 (t342.length : Int) (shl .i64 1 (t342.length : Int)) 0)) else (some (false, ([] : List Bool), false)))
set_option maxHeartbeats 8000000 in
set_option maxRecDepth 100000 in
theorem impl_CanBe.calls (k : Nat) (A0 : Option Addr) (c0 : Nat) (l0 : List (S69)) (r1 : Bool) (r2 : List Bool) (r3 : Bool) (w : World) (hr0 : Kd.C k69 w A0 l0.length l0) (hc0 : l0.length ≤ c0) (h : impl_CanBe.f k l0 = some (r1, r2, r3)) :
  Calls Try.prog 25 #[.slice A0 l0.length c0] w fun e w' => ∃ v1_ : Value, e = .returned (.tuple #[.bool r1, v1_, .bool r3]) ∧ Kd.R Kd.bool 4 w' w.heap.size (fun _ => True) v1_ r2 ∧ Below w.heap.size w w' := by
 have HR0 := am_ hr0
 have HC0 := am_ hc0
 clear hr0 hc0
 have HB := am_ (Below.refl w.heap.size w)
 have H : ((impl_GoodGates.f k l0).bind fun t341 => (if t341 = true then ((impl_inputs.f k l0).bind fun t342 => (impl_CanBe.l0 k l0 (t342.length : Int) (shl .i64 1 (t342.length : Int)) 0)) else (some (false, ([] : List Bool), false)))) = some (r1, r2, r3) := h
 clear h
 replace H := Option.bind_eq_some_iff.mp H
 obtain ⟨t341, A20, H⟩ := H
 replace H : (if t341 = true then ((impl_inputs.f k l0).bind fun t342 => (impl_CanBe.l0 k l0 (t342.length : Int) (shl .i64 1 (t342.length : Int)) 0)) else (some (false, ([] : List Bool), false))) = some (r1, r2, r3) := H
 have A2 := am_ A20
 clear A20
 by_cases c3 : t341 = true
 ·subst c3
  have H1 : ((impl_inputs.f k l0).bind fun t342 => (impl_CanBe.l0 k l0 (t342.length : Int) (shl .i64 1 (t342.length : Int)) 0)) = some (r1, r2, r3) := by rw [if_pos rfl] at H; exact H
  clear H
  have H := H1
  clear H1
  replace H := Option.bind_eq_some_iff.mp H
  obtain ⟨t342, A40, H⟩ := H
  replace H : (impl_CanBe.l0 k l0 (t342.length : Int) (shl .i64 1 (t342.length : Int)) 0) = some (r1, r2, r3) := H
  have A4 := am_ A40
  clear A40
  obtain ⟨ji5, hji5⟩ : ∃ j_ : Int, (shl .i64 1 (t342.length : Int)) = j_ := ⟨_, rfl⟩
  replace H : (impl_CanBe.l0 k l0 (t342.length : Int) ji5 0) = some (r1, r2, r3) := by first | (rw [hji5] at H; exact H) | (simp only [hji5] at H ⊢; exact H)
  (try rw [hji5] at A2)
  (try rw [hji5] at A4)
  have hji5_ : (IntKind.i64.wrap (1 * 2 ^ min (t342.length : Int).toNat 64)) = ji5 := hji5
  have hji5z : (t342.length : Int) ≤ 64 → (IntKind.i64.wrap (1 * 2 ^ (t342.length : Int).toNat)) = ji5 := shl_small hji5
  have hji5p : (IntKind.i64.wrap (1 * 2 ^ min t342.length 64)) = ji5 := hji5_
  have hji5q : (t342.length : Int) ≤ 64 → (IntKind.i64.wrap (1 * 2 ^ t342.length)) = ji5 := hji5z
  have hji5r : (IntKind.i64.wrap (2 ^ min t342.length 64)) = ji5 := by have h_ := hji5p; rw [Int.one_mul] at h_; exact h_
  have hji5s : (t342.length : Int) ≤ 64 → (IntKind.i64.wrap (2 ^ t342.length)) = ji5 := fun hle_ => by have h_ := hji5q hle_; rw [Int.one_mul] at h_; exact h_
  have hji5u : (IntKind.i64.wrap (2 ^ min (t342.length : Int).toNat 64)) = ji5 := by have h_ := hji5_; rw [Int.one_mul] at h_; exact h_
  have hji5v : (t342.length : Int) ≤ 64 → (IntKind.i64.wrap (2 ^ (t342.length : Int).toNat)) = ji5 := fun hle_ => by have h_ := hji5z hle_; rw [Int.one_mul] at h_; exact h_
  have hji5y : (wrap64 (1 * 2 ^ min (t342.length : Int).toNat 64)) = ji5 := (i64_w _).symm.trans hji5_
  have hji5x : (t342.length : Int) ≤ 64 → (wrap64 (1 * 2 ^ (t342.length : Int).toNat)) = ji5 := fun h_ => (i64_w _).symm.trans (hji5z h_)
  have H' := am_ H
  clear H
  go_enter Try.func25, Try.ntmps25
  go_wp2_with (first | ((with_reducible refine gl_ 34 rfl ?_); refine goesM_ (some 9) Try.func34 #[.slice A0 l0.length c0] ?_; (with_reducible refine (impl_GoodGates.calls k _ _ l0 true _ ?side1 ?side2 A2.out).mono ?_); (case side1 => exact cm_ HR0.out); (case side2 => exact HC0.out); rintro e w6 ⟨rfl, hb⟩; refine ⟨_, rfl, ?_⟩; replace HB := bs_ hb; (try clear hb)) | ((with_reducible refine gl_ 54 rfl ?_); refine goesM_ (some 12) Try.func54 #[.slice A0 l0.length c0] ?_; (with_reducible refine (impl_inputs.calls k _ _ l0 t342 _ ?side1 ?side2 A4.out).mono ?_); (case side1 => exact cm_ (Kd.C_below HR0.out HB.out)); (case side2 => exact HC0.out); rintro e w7 ⟨v343, rfl, ho0, hb⟩; refine ⟨_, rfl, ?_⟩; have HO344 := am_ (Kd.R_lower ho0 (below_size (bq_))); replace HB := bs_ hb; (try clear hb); (try clear ho0); obtain ⟨Ao8, co8, eo8⟩ := Kd.R_slice HO344.out; subst eo8))
  go_loopg [16] k (fun kq v16 w' => ∃ (x16_1 : Int), v16 = .int .i64 x16_1 ∧ Aside0 (impl_CanBe.l0 kq l0 (t342.length : Int) ji5 x16_1 = some (r1, r2, r3)) ∧ Aside0 (kq ≤ k) ∧ Aside0 (Below w.heap.size w w'))
  case atStart => exact ⟨(0), y53_, H', ⟨Nat.le_refl _⟩, ⟨bq_⟩⟩
  case round =>
   clear H'
   try clear c2
   try clear p2
   try clear c3
   try clear c5
   try clear p6
   obtain ⟨x16_1, rfl, HA, HK1, HB⟩ := hrel
   cases gk with
   | zero => exact absurd HA.out (by simp [impl_CanBe.l0])
   | succ k1 =>
    have H := HA.out
    clear HA
    simp only [impl_CanBe.l0] at H
    by_cases c9 : x16_1 < ji5
    ·rw [if_pos c9] at H
     have c9b0 : decide (x16_1 < ji5) = true := decide_eq_true c9
     clear c9
     replace H := Option.bind_eq_some_iff.mp H
     obtain ⟨t345, A100, H⟩ := H
     replace H : ((impl_output.f k1 l0 t345).bind fun t348 => (if t348 = true then (some (true, t345, true)) else (impl_CanBe.l0 k1 l0 (t342.length : Int) ji5 (wrap64 (x16_1 + 1))))) = some (r1, r2, r3) := H
     have A10 := am_ A100
     clear A100
     replace H := Option.bind_eq_some_iff.mp H
     obtain ⟨t348, A110, H⟩ := H
     replace H : (if t348 = true then (some (true, t345, true)) else (impl_CanBe.l0 k1 l0 (t342.length : Int) ji5 (wrap64 (x16_1 + 1)))) = some (r1, r2, r3) := H
     have A11 := am_ A110
     clear A110
     by_cases c12 : t348 = true
     ·subst c12
      have H1 : (some (true, t345, true)) = some (r1, r2, r3) := by rw [if_pos rfl] at H; exact H
      clear H
      have H := H1
      clear H1
      simp only [Option.some.injEq, Prod.mk.injEq] at H
      obtain ⟨rfl, rfl, rfl⟩ := H
      go_wp2_with (first | ((with_reducible refine gl_ 61 rfl ?_); refine goesM_ (some 21) Try.func61 #[.int .i64 (t342.length : Int), .int .i64 x16_1] ?_; (with_reducible refine (impl_model.calls k1 (t342.length : Int) x16_1 t345 _ A10.out).mono ?_); rintro e w13 ⟨v346, rfl, ho0, hb⟩; refine ⟨_, rfl, ?_⟩; have HO347 := am_ (Kd.R_lower ho0 (below_size (bq_))); replace HB := bs_ hb; (try clear hb); (try clear ho0); obtain ⟨Ao14, co14, eo14⟩ := Kd.R_slice HO347.out; subst eo14) | ((with_reducible refine gl_ 62 rfl ?_); refine goesM_ (some 24) Try.func62 #[.slice A0 l0.length c0, .slice Ao14 t345.length co14] ?_; (with_reducible refine (impl_output.calls k1 _ _ l0 _ _ t345 true _ ?side1 ?side2 ?side3 ?side4 A11.out).mono ?_); (case side1 => exact cm_ (Kd.C_below HR0.out HB.out)); (case side2 => exact HC0.out); (case side3 => exact cm_ (Kd.R_reads' HO347.out).2.2); (case side4 => exact (Kd.R_reads' HO347.out).2.1); rintro e w15 ⟨rfl, hb⟩; refine ⟨_, rfl, ?_⟩; replace HO347 := am_ (Kd.R_below (rq_ HO347.out) hb); replace HB := bs_ hb; (try clear hb)))
      go_ret3
      exact ⟨_, by first | rfl | (simp [errW_none, errW_some] <;> rfl) | (simp only [← hji5]; first | rfl | (simp [errW_none, errW_some] <;> rfl)) | (simp [*, errW_none, errW_some] <;> rfl), rq_ HO347.out, bq_⟩
     ·replace c12 := Bool.eq_false_iff.mpr c12
      subst c12
      have H1 : (impl_CanBe.l0 k1 l0 (t342.length : Int) ji5 (wrap64 (x16_1 + 1))) = some (r1, r2, r3) := by rw [if_neg (show ¬ (false = true) by decide)] at H; exact H
      clear H
      have H := H1
      clear H1
      have H' := am_ H
      clear H
      go_wp2_with (first | ((with_reducible refine gl_ 61 rfl ?_); refine goesM_ (some 21) Try.func61 #[.int .i64 (t342.length : Int), .int .i64 x16_1] ?_; (with_reducible refine (impl_model.calls k1 (t342.length : Int) x16_1 t345 _ A10.out).mono ?_); rintro e w16 ⟨v346, rfl, ho0, hb⟩; refine ⟨_, rfl, ?_⟩; have HO347 := am_ (Kd.R_lower ho0 (below_size (bq_))); replace HB := bs_ hb; (try clear hb); (try clear ho0); obtain ⟨Ao17, co17, eo17⟩ := Kd.R_slice HO347.out; subst eo17) | ((with_reducible refine gl_ 62 rfl ?_); refine goesM_ (some 24) Try.func62 #[.slice A0 l0.length c0, .slice Ao17 t345.length co17] ?_; (with_reducible refine (impl_output.calls k1 _ _ l0 _ _ t345 false _ ?side1 ?side2 ?side3 ?side4 A11.out).mono ?_); (case side1 => exact cm_ (Kd.C_below HR0.out HB.out)); (case side2 => exact HC0.out); (case side3 => exact cm_ (Kd.R_reads' HO347.out).2.2); (case side4 => exact (Kd.R_reads' HO347.out).2.1); rintro e w18 ⟨rfl, hb⟩; refine ⟨_, rfl, ?_⟩; replace HO347 := am_ (Kd.R_below (rq_ HO347.out) hb); replace HB := bs_ hb; (try clear hb)))
      go_roundg k1
      case measure => have := HK1.out; omega
      case rel => exact ⟨(wrap64 (x16_1 + 1)), y53_, H', ⟨by have := HK1.out; omega⟩, ⟨bq_⟩⟩
    ·rw [if_neg c9] at H
     have c9b0 : decide (x16_1 < ji5) = false := decide_eq_false c9
     clear c9
     simp only [Option.some.injEq, Prod.mk.injEq] at H
     obtain ⟨rfl, rfl, rfl⟩ := H
     go_wp2
     go_ret3
     exact ⟨_, by first | rfl | (simp [errW_none, errW_some] <;> rfl) | (simp only [← hji5]; first | rfl | (simp [errW_none, errW_some] <;> rfl)) | (simp [*, errW_none, errW_some] <;> rfl), by first | exact Kd.R_nil _ _ _ _ _ | exact Kd.N_nil _ _ _ _ _ | exact Kd.V_nil _ _ _ _ _ | exact Kd.Q_nil _ _ _ _ _ | exact Kd.S_nil _ _ _ _ _, bq_⟩
 ·replace c3 := Bool.eq_false_iff.mpr c3
  subst c3
  have H1 : (some (false, ([] : List Bool), false)) = some (r1, r2, r3) := by rw [if_neg (show ¬ (false = true) by decide)] at H; exact H
  clear H
  have H := H1
  clear H1
  simp only [Option.some.injEq, Prod.mk.injEq] at H
  obtain ⟨rfl, rfl, rfl⟩ := H
  go_enter Try.func25, Try.ntmps25
  go_wp2_with (first | ((with_reducible refine gl_ 34 rfl ?_); refine goesM_ (some 9) Try.func34 #[.slice A0 l0.length c0] ?_; (with_reducible refine (impl_GoodGates.calls k _ _ l0 false _ ?side1 ?side2 A2.out).mono ?_); (case side1 => exact cm_ HR0.out); (case side2 => exact HC0.out); rintro e w19 ⟨rfl, hb⟩; refine ⟨_, rfl, ?_⟩; replace HB := bs_ hb; (try clear hb)))
  go_ret3
  exact ⟨_, by first | rfl | (simp [errW_none, errW_some] <;> rfl) | (simp [*, errW_none, errW_some] <;> rfl), by first | exact Kd.R_nil _ _ _ _ _ | exact Kd.N_nil _ _ _ _ _ | exact Kd.V_nil _ _ _ _ _ | exact Kd.Q_nil _ _ _ _ _ | exact Kd.S_nil _ _ _ _ _, bq_⟩
mutual
def impl_InputsBy.j0 : Nat → List (S69) → List Bool → Bool → Option (List Bool × Bool)
 | 0, _, _, _ => none
 | k + 1, x0, x1, x18 => if x18 = true then (some (([] : List Bool), false)) else ((impl_inputs.f k x0).bind fun t350 => (impl_InputsBy.l0 k x1 ([] : List Bool) t350 (t350.length : Int) 0))
def impl_InputsBy.l0 : Nat → List Bool → List Bool → List Int → Int → Int → Option (List Bool × Bool)
 | 0, _, _, _, _, _ => none
 | k + 1, x1, x6, x20, x21, x22 => if x22 < x21 then (if 0 ≤ x22 then (if x22 < (x20.length : Int) then (if 0 ≤ (rd x20 x22) then (if (rd x20 x22) < (x1.length : Int) then (if x6.length < 140737488355328 then (impl_InputsBy.l0 k x1 (x6 ++ [rdOf false x1 (rd x20 x22)]) x20 x21 (wrap64 (x22 + 1))) else (none)) else (none)) else (none)) else (none)) else (none)) else (some (x6, true))
end
def impl_InputsBy.f (k : Nat) (l0 : List (S69)) (l1 : List Bool) : Option (List Bool × Bool) := (impl_GoodGates.f k l0).bind fun t349 => (if t349 = true then (impl_InputsBy.j0 k l0 l1 ((l1.length : Int) != (l0.length : Int))) else (impl_InputsBy.j0 k l0 l1 true))
set_option maxHeartbeats 8000000 in
set_option maxRecDepth 100000 in
theorem impl_InputsBy.calls (k : Nat) (A0 : Option Addr) (c0 : Nat) (l0 : List (S69)) (A1 : Option Addr) (c1 : Nat) (l1 : List Bool) (r1 : List Bool) (r2 : Bool) (w : World) (hr0 : Kd.C k69 w A0 l0.length l0) (hc0 : l0.length ≤ c0) (hr1 : Kd.C Kd.bool w A1 l1.length l1) (hc1 : l1.length ≤ c1) (h : impl_InputsBy.f k l0 l1 = some (r1, r2)) :
  Calls Try.prog 29 #[.slice A0 l0.length c0, .slice A1 l1.length c1] w fun e w' => ∃ v0_ : Value, e = .returned (.tuple #[v0_, .bool r2]) ∧ Kd.R Kd.bool 4 w' w.heap.size (fun _ => True) v0_ r1 ∧ Below w.heap.size w w' := by
 have HR0 := am_ hr0
 have HC0 := am_ hc0
 clear hr0 hc0
 have HR1 := am_ hr1
 have HC1 := am_ hc1
 clear hr1 hc1
 have HB := am_ (Below.refl w.heap.size w)
 have H : ((impl_GoodGates.f k l0).bind fun t349 => (if t349 = true then (impl_InputsBy.j0 k l0 l1 ((l1.length : Int) != (l0.length : Int))) else (impl_InputsBy.j0 k l0 l1 true))) = some (r1, r2) := h
 clear h
 have HC3 := am_ H
 clear H
 go_enter Try.func29, Try.ntmps29
 go_upto_region 1 with (fail)
 go_cut [18] (fun v18 wc => ∃ (kq : Nat) (x18_2 : Bool), v18 = .bool x18_2 ∧ Aside0 (impl_InputsBy.j0 kq l0 l1 x18_2 = some (r1, r2)) ∧ Aside0 (kq ≤ k) ∧ Aside0 (Below w.heap.size w wc))
 case first =>
  have H := HC3.out
  clear HC3
  replace H := Option.bind_eq_some_iff.mp H
  obtain ⟨t349, A40, H⟩ := H
  replace H : (if t349 = true then (impl_InputsBy.j0 k l0 l1 ((l1.length : Int) != (l0.length : Int))) else (impl_InputsBy.j0 k l0 l1 true)) = some (r1, r2) := H
  have A4 := am_ A40
  clear A40
  by_cases c5 : t349 = true
  ·subst c5
   have H1 : (impl_InputsBy.j0 k l0 l1 ((l1.length : Int) != (l0.length : Int))) = some (r1, r2) := by rw [if_pos rfl] at H; exact H
   clear H
   have H := H1
   clear H1
   have H' := am_ H
   clear H
   go_wp2_with (first | ((with_reducible refine gl_ 34 rfl ?_); refine goesM_ (some 10) Try.func34 #[.slice A0 l0.length c0] ?_; (with_reducible refine (impl_GoodGates.calls k _ _ l0 true _ ?side1 ?side2 A4.out).mono ?_); (case side1 => exact cm_ (Kd.C_below HR0.out HB.out)); (case side2 => exact HC0.out); rintro e w6 ⟨rfl, hb⟩; refine ⟨_, rfl, ?_⟩; replace HB := bs_ hb; (try clear hb)))
   go_meet
   case rel => exact ⟨_, (((l1.length : Int) != (l0.length : Int))), y53_, H', ⟨by first | omega | exact Nat.le_refl _⟩, ⟨bq_⟩⟩
  ·replace c5 := Bool.eq_false_iff.mpr c5
   subst c5
   have H1 : (impl_InputsBy.j0 k l0 l1 true) = some (r1, r2) := by rw [if_neg (show ¬ (false = true) by decide)] at H; exact H
   clear H
   have H := H1
   clear H1
   have H' := am_ H
   clear H
   go_wp2_with (first | ((with_reducible refine gl_ 34 rfl ?_); refine goesM_ (some 10) Try.func34 #[.slice A0 l0.length c0] ?_; (with_reducible refine (impl_GoodGates.calls k _ _ l0 false _ ?side1 ?side2 A4.out).mono ?_); (case side1 => exact cm_ (Kd.C_below HR0.out HB.out)); (case side2 => exact HC0.out); rintro e w7 ⟨rfl, hb⟩; refine ⟨_, rfl, ?_⟩; replace HB := bs_ hb; (try clear hb)))
   go_meet
   case rel => exact ⟨_, (true), y53_, H', ⟨by first | omega | exact Nat.le_refl _⟩, ⟨bq_⟩⟩
 case rest =>
  clear HC3
  try clear c1
  try clear c2
  try clear p2
  try clear c3
  try clear c5
  obtain ⟨kq, x18_2, rfl, HA, HJ2, HB⟩ := hcut
  cases kq with
  | zero => exact absurd HA.out (by simp [impl_InputsBy.j0])
  | succ kj2 =>
   have H := HA.out
   clear HA
   simp only [impl_InputsBy.j0] at H
   by_cases c8 : x18_2 = true
   ·subst c8
    have H1 : (some (([] : List Bool), false)) = some (r1, r2) := by rw [if_pos rfl] at H; exact H
    clear H
    have H := H1
    clear H1
    simp only [Option.some.injEq, Prod.mk.injEq] at H
    obtain ⟨rfl, rfl⟩ := H
    go_wp2
    go_ret2
    exact ⟨_, by first | rfl | (simp [errW_none, errW_some] <;> rfl) | (simp [*, errW_none, errW_some] <;> rfl), by first | exact Kd.R_nil _ _ _ _ _ | exact Kd.N_nil _ _ _ _ _ | exact Kd.V_nil _ _ _ _ _ | exact Kd.Q_nil _ _ _ _ _ | exact Kd.S_nil _ _ _ _ _, bq_⟩
   ·replace c8 := Bool.eq_false_iff.mpr c8
    subst c8
    have H1 : ((impl_inputs.f kj2 l0).bind fun t350 => (impl_InputsBy.l0 kj2 l1 ([] : List Bool) t350 (t350.length : Int) 0)) = some (r1, r2) := by rw [if_neg (show ¬ (false = true) by decide)] at H; exact H
    clear H
    have H := H1
    clear H1
    replace H := Option.bind_eq_some_iff.mp H
    obtain ⟨t350, A90, H⟩ := H
    replace H : (impl_InputsBy.l0 kj2 l1 ([] : List Bool) t350 (t350.length : Int) 0) = some (r1, r2) := H
    have A9 := am_ A90
    clear A90
    have H' := am_ H
    clear H
    go_wp2_with (first | ((with_reducible refine gl_ 54 rfl ?_); refine goesM_ (some 20) Try.func54 #[.slice A0 l0.length c0] ?_; (with_reducible refine (impl_inputs.calls kj2 _ _ l0 t350 _ ?side1 ?side2 A9.out).mono ?_); (case side1 => exact cm_ (Kd.C_below HR0.out HB.out)); (case side2 => exact HC0.out); rintro e w10 ⟨v351, rfl, ho0, hb⟩; refine ⟨_, rfl, ?_⟩; have HO352 := am_ (Kd.R_lower ho0 (below_size (bq_))); replace HB := bs_ hb; (try clear hb); (try clear ho0); obtain ⟨Ao11, co11, eo11⟩ := Kd.R_slice HO352.out; subst eo11))
    go_loopg [6, 22] kj2 (fun kq v6 v22 w' => ∃ (x6_2 : List Bool) (x22_2 : Int), v22 = .int .i64 x22_2 ∧ Aside0 (impl_InputsBy.l0 kq l1 x6_2 t350 (t350.length : Int) x22_2 = some (r1, r2)) ∧ Aside0 (kq ≤ kj2) ∧ Aside0 (Kd.R Kd.bool 4 w' w.heap.size (fun _ => True) v6 x6_2) ∧ Aside0 (Kd.R (Kd.int .i64) 3 w' w.heap.size (fun _ => True) (.slice Ao11 t350.length co11) t350) ∧ Aside0 (Below w.heap.size w w'))
    case atStart => exact ⟨(([] : List Bool)), (0), y53_, H', ⟨Nat.le_refl _⟩, ⟨by first | exact Kd.R_nil _ _ _ _ _ | exact Kd.N_nil _ _ _ _ _ | exact Kd.V_nil _ _ _ _ _ | exact Kd.Q_nil _ _ _ _ _ | exact Kd.S_nil _ _ _ _ _⟩, ⟨rq_ HO352.out⟩, ⟨bq_⟩⟩
    case round =>
     clear H'
     try clear c1
     try clear c2
     try clear p2
     try clear c3
     try clear c5
     try clear c8
     try clear p2
     obtain ⟨x6_2, x22_2, rfl, HA, HK2, HO_6, HO_20, HB⟩ := hrel
     cases gk with
     | zero => exact absurd HA.out (by simp [impl_InputsBy.l0])
     | succ k2 =>
      have H := HA.out
      clear HA
      simp only [impl_InputsBy.l0] at H
      by_cases c12 : x22_2 < (t350.length : Int)
      ·rw [if_pos c12] at H
       have c12b0 : decide (x22_2 < (t350.length : Int)) = true := decide_eq_true c12
       clear c12
       by_cases c13 : 0 ≤ x22_2
       ·rw [if_pos c13] at H
        have c13b0 : decide (0 ≤ x22_2) = true := decide_eq_true c13
        clear c13
        by_cases c14 : x22_2 < (t350.length : Int)
        ·rw [if_pos c14] at H
         have c14b0 : decide (x22_2 < (t350.length : Int)) = true := decide_eq_true c14
         clear c14
         by_cases c15 : 0 ≤ (rd t350 x22_2)
         ·rw [if_pos c15] at H
          have c15b0 : decide (0 ≤ (rd t350 x22_2)) = true := decide_eq_true c15
          clear c15
          by_cases c16 : (rd t350 x22_2) < (l1.length : Int)
          ·rw [if_pos c16] at H
           have c16b0 : decide ((rd t350 x22_2) < (l1.length : Int)) = true := decide_eq_true c16
           clear c16
           by_cases c17 : x6_2.length < 140737488355328
           ·rw [if_pos c17] at H
            have LMc17 := am_ c17
            clear c17
            obtain ⟨y355, hy355⟩ : ∃ y_ : List Bool, y_ = (x6_2 ++ [rdOf false l1 (rd t350 x22_2)]) := ⟨_, rfl⟩
            replace H : (impl_InputsBy.l0 k2 l1 y355 t350 (t350.length : Int) (wrap64 (x22_2 + 1))) = some (r1, r2) := by first | (rw [hy355]; with_reducible exact H) | (have H2_ := (Option.bind_some _ _).symm.trans H; rw [hy355]; with_reducible exact H2_) | (have H2_ := (Option.bind_some _ _).symm.trans H; with_reducible exact H2_) | with_reducible exact H | (rw [hy355]; exact H) | exact H
            have Ny355 := am_ hy355
            clear hy355
            have H' := am_ H
            clear H
            have p353 : 0 ≤ (x22_2 : Int) := od_
            have q353 : x22_2 < (t350.length : Int) := od_
            obtain ⟨ad353, e353, hx353_0⟩ := Kd.at_int (Kd.R_reads' HO_20.out).2.2 x22_2 p353 q353
            cases e353
            replace p353 := eq_true p353
            replace q353 := eq_true q353
            have p354 : 0 ≤ ((rd t350 x22_2) : Int) := od_
            have q354 : (rd t350 x22_2) < (l1.length : Int) := od_
            obtain ⟨ad354, e354, hx354_0⟩ := Kd.at_bool HR1.out (rd t350 x22_2) p354 q354
            cases e354
            replace hx354_0 := (HB.out.cell (World.block_lt_of_cell? w _ hx354_0)).trans hx354_0
            replace p354 := eq_true p354
            replace q354 := eq_true q354
            go_wp2_with (first | ((with_reducible refine gate_builtin (b := .append) (xs := #[.tmp 26, .tmp 31]) rfl ?_); (try (refine gate_guard (by rfl) ?_; dsimp only)); at_builtin; refine Kd.R_append Kd.bool (w0 := w) w.heap.size rfl (.tmp 26) (.tmp 31) 37 4 (.bool false) 1 rfl Try.underlying37 info4 rfl (by decide) (by omega) u6 x6_2 (rdOf false l1 (rd t350 x22_2)) [.bool (rdOf false l1 (rd t350 x22_2))] (fun _ => True) (fun _ => False) rfl rfl ?aP (fun _ hk => hk.elim) ?aF ?aO ?aB ?aS ?aL ?_; (case aP => exact rfl); (case aB => exact (bq_)); (case aF => exact (fun _ _ => trivial)); (case aO => exact (rq_ HO_6.out)); (case aS => exact (below_size (bq_))); (case aL => have := LMc17.out; omega); intro v356 w18 ho hb hg hat; rw [← Ny355.out] at ho; replace HO_20 := am_ (Kd.R_over' (rq_ HO_20.out) (Kd.R_typed (rq_ HO_6.out)) (by decide) hg); replace HB := am_ (hb); have HO357 := am_ (ho); clear HO_6; clear ho hb hg hat))
            go_roundg k2
            case measure => have := HJ2.out; have := HK2.out; omega
            case rel => exact ⟨(y355), (wrap64 (x22_2 + 1)), y53_, H', ⟨by have := HJ2.out; have := HK2.out; omega⟩, ⟨rq_ HO357.out⟩, ⟨rq_ HO_20.out⟩, ⟨bq_⟩⟩
           ·rw [if_neg c17] at H
            exact absurd H (by simp)
          ·rw [if_neg c16] at H
           exact absurd H (by simp)
         ·rw [if_neg c15] at H
          exact absurd H (by simp)
        ·rw [if_neg c14] at H
         exact absurd H (by simp)
       ·rw [if_neg c13] at H
        exact absurd H (by simp)
      ·rw [if_neg c12] at H
       have c12b0 : decide (x22_2 < (t350.length : Int)) = false := decide_eq_false c12
       clear c12
       simp only [Option.some.injEq, Prod.mk.injEq] at H
       obtain ⟨rfl, rfl⟩ := H
       go_wp2
       go_ret2
       exact ⟨_, by first | rfl | (simp [errW_none, errW_some] <;> rfl) | (simp [*, errW_none, errW_some] <;> rfl), rq_ HO_6.out, bq_⟩
def laws_sameInts.l0 : Nat → List Int → List Int → Int → Int → Option (Bool)
 | 0, _, _, _, _ => none
 | k + 1, x0, x1, x12, x13 => if x13 < x12 then (if 0 ≤ x13 then (if x13 < (x0.length : Int) then (if x13 < (x1.length : Int) then (if (rd x0 x13) = (rd x1 x13) then (laws_sameInts.l0 k x0 x1 x12 (wrap64 (x13 + 1))) else (some false)) else (none)) else (none)) else (none)) else (some true)
def laws_sameInts.f (k : Nat) (l0 : List Int) (l1 : List Int) : Option (Bool) := if (l0.length : Int) = (l1.length : Int) then (laws_sameInts.l0 k l0 l1 (l0.length : Int) 0) else (some false)
set_option maxHeartbeats 8000000 in
set_option maxRecDepth 100000 in
theorem laws_sameInts.calls (k : Nat) (A0 : Option Addr) (c0 : Nat) (l0 : List Int) (A1 : Option Addr) (c1 : Nat) (l1 : List Int) (r : Bool) (w : World) (hr0 : Kd.C (Kd.int .i64) w A0 l0.length l0) (hc0 : l0.length ≤ c0) (hr1 : Kd.C (Kd.int .i64) w A1 l1.length l1) (hc1 : l1.length ≤ c1) (h : laws_sameInts.f k l0 l1 = some r) :
  Calls Try.prog 64 #[.slice A0 l0.length c0, .slice A1 l1.length c1] w fun e w' => e = .returned (.bool r) ∧ Drawn0 w w' := by
 have HR0 := am_ hr0
 have HC0 := am_ hc0
 clear hr0 hc0
 have HR1 := am_ hr1
 have HC1 := am_ hc1
 clear hr1 hc1
 have H : (if (l0.length : Int) = (l1.length : Int) then (laws_sameInts.l0 k l0 l1 (l0.length : Int) 0) else (some false)) = some r := h
 clear h
 by_cases c3 : (l0.length : Int) = (l1.length : Int)
 ·rw [if_pos c3] at H
  have c3b0 : ((l0.length : Int) == (l1.length : Int)) = true := beq_iff_eq.mpr c3
  have c3b1 : ((l0.length : Int) != (l1.length : Int)) = false := bne_eq_false_iff_eq.mpr c3
  have c3b2 : (l0.length == l1.length) = true := by first | simpa using c3 | (simp at c3 ⊢; omega)
  clear c3
  have H' := am_ H
  clear H
  go_enter Try.func64, Try.ntmps64
  go_wp2
  repeat (go_quiet (fail); try go_wp2)
  go_loopg [13] k (fun kq v13 w' => ∃ (x13_1 : Int), v13 = .int .i64 x13_1 ∧ Aside0 (laws_sameInts.l0 kq l0 l1 (l0.length : Int) x13_1 = some r) ∧ Aside0 (kq ≤ k) ∧ Drawn0 w w')
  case atStart => exact ⟨(0), y53_, H', ⟨Nat.le_refl _⟩, by repeat (first | exact Drawn0.refl _ | apply Drawn0.step)⟩
  case round =>
   clear H'
   try clear c1
   try clear p2
   try clear c3
   try clear c3b0
   try clear c3b1
   try clear c3b2
   obtain ⟨x13_1, rfl, HA, HK1, ⟨m1, rfl⟩⟩ := hrel
   cases gk with
   | zero => exact absurd HA.out (by simp [laws_sameInts.l0])
   | succ k1 =>
    have H := HA.out
    clear HA
    simp only [laws_sameInts.l0] at H
    by_cases c4 : x13_1 < (l0.length : Int)
    ·rw [if_pos c4] at H
     have c4b0 : decide (x13_1 < (l0.length : Int)) = true := decide_eq_true c4
     clear c4
     by_cases c5 : 0 ≤ x13_1
     ·rw [if_pos c5] at H
      have c5b0 : decide (0 ≤ x13_1) = true := decide_eq_true c5
      clear c5
      by_cases c6 : x13_1 < (l0.length : Int)
      ·rw [if_pos c6] at H
       have c6b0 : decide (x13_1 < (l0.length : Int)) = true := decide_eq_true c6
       clear c6
       by_cases c7 : x13_1 < (l1.length : Int)
       ·rw [if_pos c7] at H
        have c7b0 : decide (x13_1 < (l1.length : Int)) = true := decide_eq_true c7
        clear c7
        by_cases c8 : (rd l0 x13_1) = (rd l1 x13_1)
        ·rw [if_pos c8] at H
         have c8b0 : ((rd l0 x13_1) == (rd l1 x13_1)) = true := beq_iff_eq.mpr c8
         have c8b1 : ((rd l0 x13_1) != (rd l1 x13_1)) = false := bne_eq_false_iff_eq.mpr c8
         clear c8
         have H' := am_ H
         clear H
         have p358 : 0 ≤ (x13_1 : Int) := od_
         have q358 : x13_1 < (l0.length : Int) := od_
         obtain ⟨ad358, e358, hx358_0⟩ := Kd.at_int HR0.out x13_1 p358 q358
         cases e358
         replace p358 := eq_true p358
         replace q358 := eq_true q358
         have p359 : 0 ≤ (x13_1 : Int) := od_
         have q359 : x13_1 < (l1.length : Int) := od_
         obtain ⟨ad359, e359, hx359_0⟩ := Kd.at_int HR1.out x13_1 p359 q359
         cases e359
         replace p359 := eq_true p359
         replace q359 := eq_true q359
         go_wp2
         repeat (go_quiet (fail); try go_wp2)
         go_roundg k1
         case measure => have := HK1.out; omega
         case rel => exact ⟨(wrap64 (x13_1 + 1)), y53_, H', ⟨by have := HK1.out; omega⟩, by repeat (first | exact Drawn0.refl _ | apply Drawn0.step)⟩
        ·rw [if_neg c8] at H
         have c8b0 : ((rd l0 x13_1) == (rd l1 x13_1)) = false := beq_eq_false_iff_ne.mpr c8
         have c8b1 : ((rd l0 x13_1) != (rd l1 x13_1)) = true := bne_iff_ne.mpr c8
         obtain rfl := Option.some.inj H
         have p358 : 0 ≤ (x13_1 : Int) := od_
         have q358 : x13_1 < (l0.length : Int) := od_
         obtain ⟨ad358, e358, hx358_0⟩ := Kd.at_int HR0.out x13_1 p358 q358
         cases e358
         replace p358 := eq_true p358
         replace q358 := eq_true q358
         have p359 : 0 ≤ (x13_1 : Int) := od_
         have q359 : x13_1 < (l1.length : Int) := od_
         obtain ⟨ad359, e359, hx359_0⟩ := Kd.at_int HR1.out x13_1 p359 q359
         cases e359
         replace p359 := eq_true p359
         replace q359 := eq_true q359
         go_wp2
         repeat (go_quiet (fail); try go_wp2)
         go_ret
         exact ⟨by first | rfl | (simp; done) | (simp [*]; done), by repeat (first | exact Drawn0.refl _ | apply Drawn0.step)⟩
       ·rw [if_neg c7] at H
        exact absurd H (by simp)
      ·rw [if_neg c6] at H
       exact absurd H (by simp)
     ·rw [if_neg c5] at H
      exact absurd H (by simp)
    ·rw [if_neg c4] at H
     have c4b0 : decide (x13_1 < (l0.length : Int)) = false := decide_eq_false c4
     clear c4
     obtain rfl := Option.some.inj H
     go_wp2
     repeat (go_quiet (fail); try go_wp2)
     go_ret
     exact ⟨by first | rfl | (simp; done) | (simp [*]; done), by repeat (first | exact Drawn0.refl _ | apply Drawn0.step)⟩
 ·rw [if_neg c3] at H
  have c3b0 : ((l0.length : Int) == (l1.length : Int)) = false := beq_eq_false_iff_ne.mpr c3
  have c3b1 : ((l0.length : Int) != (l1.length : Int)) = true := bne_iff_ne.mpr c3
  have c3b2 : (l0.length == l1.length) = false := by first | simpa using c3 | (simp at c3 ⊢; omega)
  obtain rfl := Option.some.inj H
  go_enter Try.func64, Try.ntmps64
  go_wp2
  repeat (go_quiet (fail); try go_wp2)
  go_ret
  exact ⟨by first | rfl | (simp; done) | (simp [*]; done), by repeat (first | exact Drawn0.refl _ | apply Drawn0.step)⟩
end Go.Proofs.Ytgahidilhjijiaa.PGT
