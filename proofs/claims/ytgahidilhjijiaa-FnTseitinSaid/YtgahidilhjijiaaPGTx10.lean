import Derived.Test.YtgahidilhjijiaaPGTx0
import Derived.Test.YtgahidilhjijiaaPGTx3
import Derived.Test.YtgahidilhjijiaaPGTx4
import Derived.Test.YtgahidilhjijiaaPGTx6
import Derived.Test.YtgahidilhjijiaaPGTx7
import Derived.Test.YtgahidilhjijiaaPGTx9
namespace Go.Proofs.Ytgahidilhjijiaa.PGT
open Go.RowKit Go.Proofs.YtgahidilhjijiaaW.PrintWords Go.Proofs.YtgahidilhjijiaaW.PrintLast Go.Proofs.YtgahidilhjijiaaW.PrintMore
attribute [local go_sem] max2_int min2_int max_two min_two max_three min_three max_four min_four   -- for this text's walks alone
set_option linter.unusedVariables false
set_option linter.unusedSimpArgs false
def impl_countModels.l0 : Nat → Int → List (List Int) → Int → Int → Int → Option (Int)
 | 0, _, _, _, _, _ => none
 | k + 1, x0, x1, x5, x8, x9 => if x9 < x8 then ((impl_model.f k x0 x9).bind fun t480 => ((impl_holds.f k x1 t480).bind fun t483 => (if t483 = true then (impl_countModels.l0 k x0 x1 (wrap64 (x5 + 1)) x8 (wrap64 (x9 + 1))) else (impl_countModels.l0 k x0 x1 x5 x8 (wrap64 (x9 + 1)))))) else (some x5)
def impl_countModels.f (k : Nat) (a0 : Int) (l1 : List (List Int)) : Option (Int) := if 0 ≤ a0 then (impl_countModels.l0 k a0 l1 0 (shl .i64 1 a0) 0) else (none)
set_option maxHeartbeats 8000000 in
set_option maxRecDepth 100000 in
theorem impl_countModels.calls (k : Nat) (a0 : Int) (A1 : Option Addr) (c1 : Nat) (l1 : List (List Int)) (r : Int) (w : World) (hr1 : Kd.C (Kd.slice 3 (Kd.int .i64)) w A1 l1.length l1) (hc1 : l1.length ≤ c1) (h : impl_countModels.f k a0 l1 = some r) :
  Calls Try.prog 66 #[.int .i64 a0, .slice A1 l1.length c1] w fun e w' => e = .returned (.int .i64 r) ∧ Below w.heap.size w w' := by
 have HR1 := am_ hr1
 have HC1 := am_ hc1
 clear hr1 hc1
 have HB := am_ (Below.refl w.heap.size w)
 have H : (if 0 ≤ a0 then (impl_countModels.l0 k a0 l1 0 (shl .i64 1 a0) 0) else (none)) = some r := h
 clear h
 by_cases c3 : 0 ≤ a0
 ·rw [if_pos c3] at H
  have c3b0 := eq_true c3
  have c3b1 : decide (0 ≤ a0) = true := decide_eq_true c3
  clear c3
  obtain ⟨ji4, hji4⟩ : ∃ j_ : Int, (shl .i64 1 a0) = j_ := ⟨_, rfl⟩
  replace H : (impl_countModels.l0 k a0 l1 0 ji4 0) = some r := by first | (rw [hji4] at H; exact H) | (simp only [hji4] at H ⊢; exact H)
  have hji4_ : (IntKind.i64.wrap (1 * 2 ^ min a0.toNat 64)) = ji4 := hji4
  have hji4z : a0 ≤ 64 → (IntKind.i64.wrap (1 * 2 ^ a0.toNat)) = ji4 := shl_small hji4
  have hji4u : (IntKind.i64.wrap (2 ^ min a0.toNat 64)) = ji4 := by have h_ := hji4_; rw [Int.one_mul] at h_; exact h_
  have hji4v : a0 ≤ 64 → (IntKind.i64.wrap (2 ^ a0.toNat)) = ji4 := fun hle_ => by have h_ := hji4z hle_; rw [Int.one_mul] at h_; exact h_
  have hji4y : (wrap64 (1 * 2 ^ min a0.toNat 64)) = ji4 := (i64_w _).symm.trans hji4_
  have hji4x : a0 ≤ 64 → (wrap64 (1 * 2 ^ a0.toNat)) = ji4 := fun h_ => (i64_w _).symm.trans (hji4z h_)
  have H' := am_ H
  clear H
  go_enter Try.func66, Try.ntmps66
  go_wp2
  go_loopg [5, 9] k (fun kq v5 v9 w' => ∃ (x5_1 : Int) (x9_1 : Int), v5 = .int .i64 x5_1 ∧ v9 = .int .i64 x9_1 ∧ Aside0 (impl_countModels.l0 kq a0 l1 x5_1 ji4 x9_1 = some r) ∧ Aside0 (kq ≤ k) ∧ Aside0 (Below w.heap.size w w'))
  case atStart => exact ⟨(0), (0), y53_, y53_, H', ⟨Nat.le_refl _⟩, ⟨bq_⟩⟩
  case round =>
   clear H'
   try clear c1
   try clear p2
   try clear c3
   try clear c3b0
   try clear c3b1
   obtain ⟨x5_1, x9_1, rfl, rfl, HA, HK1, HB⟩ := hrel
   cases gk with
   | zero => exact absurd HA.out (by simp [impl_countModels.l0])
   | succ k1 =>
    have H := HA.out
    clear HA
    simp only [impl_countModels.l0] at H
    by_cases c5 : x9_1 < ji4
    ·rw [if_pos c5] at H
     have c5b0 : decide (x9_1 < ji4) = true := decide_eq_true c5
     clear c5
     replace H := Option.bind_eq_some_iff.mp H
     obtain ⟨t480, A60, H⟩ := H
     replace H : ((impl_holds.f k1 l1 t480).bind fun t483 => (if t483 = true then (impl_countModels.l0 k1 a0 l1 (wrap64 (x5_1 + 1)) ji4 (wrap64 (x9_1 + 1))) else (impl_countModels.l0 k1 a0 l1 x5_1 ji4 (wrap64 (x9_1 + 1))))) = some r := H
     have A6 := am_ A60
     clear A60
     replace H := Option.bind_eq_some_iff.mp H
     obtain ⟨t483, A70, H⟩ := H
     replace H : (if t483 = true then (impl_countModels.l0 k1 a0 l1 (wrap64 (x5_1 + 1)) ji4 (wrap64 (x9_1 + 1))) else (impl_countModels.l0 k1 a0 l1 x5_1 ji4 (wrap64 (x9_1 + 1)))) = some r := H
     have A7 := am_ A70
     clear A70
     by_cases c8 : t483 = true
     ·subst c8
      have H1 : (impl_countModels.l0 k1 a0 l1 (wrap64 (x5_1 + 1)) ji4 (wrap64 (x9_1 + 1))) = some r := by rw [if_pos rfl] at H; exact H
      clear H
      have H := H1
      clear H1
      have H' := am_ H
      clear H
      go_wp2_with (first | ((with_reducible refine gl_ 61 rfl ?_); refine goesM_ (some 15) Try.func61 #[.int .i64 a0, .int .i64 x9_1] ?_; (with_reducible refine (impl_model.calls k1 a0 x9_1 t480 _ A6.out).mono ?_); rintro e w9 ⟨v481, rfl, ho0, hb⟩; refine ⟨_, rfl, ?_⟩; have HO482 := am_ (Kd.R_lower ho0 (below_size (bq_))); replace HB := bs_ hb; (try clear hb); (try clear ho0); obtain ⟨Ao10, co10, eo10⟩ := Kd.R_slice HO482.out; subst eo10) | ((with_reducible refine gl_ 67 rfl ?_); refine goesM_ (some 16) Try.func67 #[.slice A1 l1.length c1, .slice Ao10 t480.length co10] ?_; (with_reducible refine (impl_holds.calls k1 _ _ l1 _ _ t480 true _ ?side1 ?side2 ?side3 ?side4 A7.out).mono ?_); (case side1 => exact cm_ (Kd.C_below HR1.out HB.out)); (case side2 => exact HC1.out); (case side3 => exact cm_ (Kd.R_reads' HO482.out).2.2); (case side4 => exact (Kd.R_reads' HO482.out).2.1); rintro e w11 ⟨rfl, hb⟩; refine ⟨_, rfl, ?_⟩; replace HO482 := am_ (Kd.R_below (rq_ HO482.out) hb); replace HB := bs_ hb; (try clear hb)))
      go_roundg k1
      case measure => have := HK1.out; omega
      case rel => exact ⟨(wrap64 (x5_1 + 1)), (wrap64 (x9_1 + 1)), y53_, y53_, H', ⟨by have := HK1.out; omega⟩, ⟨bq_⟩⟩
     ·replace c8 := Bool.eq_false_iff.mpr c8
      subst c8
      have H1 : (impl_countModels.l0 k1 a0 l1 x5_1 ji4 (wrap64 (x9_1 + 1))) = some r := by rw [if_neg (show ¬ (false = true) by decide)] at H; exact H
      clear H
      have H := H1
      clear H1
      have H' := am_ H
      clear H
      go_wp2_with (first | ((with_reducible refine gl_ 61 rfl ?_); refine goesM_ (some 15) Try.func61 #[.int .i64 a0, .int .i64 x9_1] ?_; (with_reducible refine (impl_model.calls k1 a0 x9_1 t480 _ A6.out).mono ?_); rintro e w12 ⟨v481, rfl, ho0, hb⟩; refine ⟨_, rfl, ?_⟩; have HO482 := am_ (Kd.R_lower ho0 (below_size (bq_))); replace HB := bs_ hb; (try clear hb); (try clear ho0); obtain ⟨Ao13, co13, eo13⟩ := Kd.R_slice HO482.out; subst eo13) | ((with_reducible refine gl_ 67 rfl ?_); refine goesM_ (some 16) Try.func67 #[.slice A1 l1.length c1, .slice Ao13 t480.length co13] ?_; (with_reducible refine (impl_holds.calls k1 _ _ l1 _ _ t480 false _ ?side1 ?side2 ?side3 ?side4 A7.out).mono ?_); (case side1 => exact cm_ (Kd.C_below HR1.out HB.out)); (case side2 => exact HC1.out); (case side3 => exact cm_ (Kd.R_reads' HO482.out).2.2); (case side4 => exact (Kd.R_reads' HO482.out).2.1); rintro e w14 ⟨rfl, hb⟩; refine ⟨_, rfl, ?_⟩; replace HO482 := am_ (Kd.R_below (rq_ HO482.out) hb); replace HB := bs_ hb; (try clear hb)))
      go_roundg k1
      case measure => have := HK1.out; omega
      case rel => exact ⟨(x5_1), (wrap64 (x9_1 + 1)), y53_, y53_, H', ⟨by have := HK1.out; omega⟩, ⟨bq_⟩⟩
    ·rw [if_neg c5] at H
     have c5b0 : decide (x9_1 < ji4) = false := decide_eq_false c5
     clear c5
     obtain rfl := Option.some.inj H
     go_wp2
     go_ret
     exact ⟨by first | rfl | (simp [errW_none, errW_some] <;> rfl) | (simp only [← hji4]; first | rfl | (simp [errW_none, errW_some] <;> rfl)) | (simp [*, errW_none, errW_some] <;> rfl), bq_⟩
 ·rw [if_neg c3] at H
  exact absurd H (by simp)
def impl_CountModels.f (k : Nat) (a0 : Int) (l1 : List (List Int)) : Option (Int × Bool) := (impl_GoodClauses.f k a0 l1).bind fun t484 => (if t484 = true then ((impl_countModels.f k a0 l1).bind fun t485 => (some (t485, true))) else (some (0, false)))
set_option maxHeartbeats 8000000 in
set_option maxRecDepth 100000 in
theorem impl_CountModels.calls (k : Nat) (a0 : Int) (A1 : Option Addr) (c1 : Nat) (l1 : List (List Int)) (r1 : Int) (r2 : Bool) (w : World) (hr1 : Kd.C (Kd.slice 3 (Kd.int .i64)) w A1 l1.length l1) (hc1 : l1.length ≤ c1) (h : impl_CountModels.f k a0 l1 = some (r1, r2)) :
  Calls Try.prog 35 #[.int .i64 a0, .slice A1 l1.length c1] w fun e w' => e = .returned (.tuple #[.int .i64 r1, .bool r2]) ∧ Below w.heap.size w w' := by
 have HR1 := am_ hr1
 have HC1 := am_ hc1
 clear hr1 hc1
 have HB := am_ (Below.refl w.heap.size w)
 have H : ((impl_GoodClauses.f k a0 l1).bind fun t484 => (if t484 = true then ((impl_countModels.f k a0 l1).bind fun t485 => (some (t485, true))) else (some (0, false)))) = some (r1, r2) := h
 clear h
 replace H := Option.bind_eq_some_iff.mp H
 obtain ⟨t484, A30, H⟩ := H
 replace H : (if t484 = true then ((impl_countModels.f k a0 l1).bind fun t485 => (some (t485, true))) else (some (0, false))) = some (r1, r2) := H
 have A3 := am_ A30
 clear A30
 by_cases c4 : t484 = true
 ·subst c4
  have H1 : ((impl_countModels.f k a0 l1).bind fun t485 => (some (t485, true))) = some (r1, r2) := by rw [if_pos rfl] at H; exact H
  clear H
  have H := H1
  clear H1
  replace H := Option.bind_eq_some_iff.mp H
  obtain ⟨t485, A50, H⟩ := H
  replace H : (some (t485, true)) = some (r1, r2) := H
  have A5 := am_ A50
  clear A50
  simp only [Option.some.injEq, Prod.mk.injEq] at H
  obtain ⟨rfl, rfl⟩ := H
  go_enter Try.func35, Try.ntmps35
  go_wp2_with (first | ((with_reducible refine gl_ 58 rfl ?_); refine goesM_ (some 8) Try.func58 #[.int .i64 a0, .slice A1 l1.length c1] ?_; (with_reducible refine (impl_GoodClauses.calls k a0 _ _ l1 true _ ?side1 ?side2 A3.out).mono ?_); (case side1 => exact cm_ HR1.out); (case side2 => exact HC1.out); rintro e w6 ⟨rfl, hb⟩; refine ⟨_, rfl, ?_⟩; replace HB := bs_ hb; (try clear hb)) | ((with_reducible refine gl_ 66 rfl ?_); refine goesM_ (some 12) Try.func66 #[.int .i64 a0, .slice A1 l1.length c1] ?_; (with_reducible refine (impl_countModels.calls k a0 _ _ l1 t485 _ ?side1 ?side2 A5.out).mono ?_); (case side1 => exact cm_ (Kd.C_below HR1.out HB.out)); (case side2 => exact HC1.out); rintro e w7 ⟨rfl, hb⟩; refine ⟨_, rfl, ?_⟩; replace HB := bs_ hb; (try clear hb)))
  go_ret2
  exact ⟨by first | rfl | (simp [errW_none, errW_some] <;> rfl) | (simp [*, errW_none, errW_some] <;> rfl), bq_⟩
 ·replace c4 := Bool.eq_false_iff.mpr c4
  subst c4
  have H1 : (some (0, false)) = some (r1, r2) := by rw [if_neg (show ¬ (false = true) by decide)] at H; exact H
  clear H
  have H := H1
  clear H1
  simp only [Option.some.injEq, Prod.mk.injEq] at H
  obtain ⟨rfl, rfl⟩ := H
  go_enter Try.func35, Try.ntmps35
  go_wp2_with (first | ((with_reducible refine gl_ 58 rfl ?_); refine goesM_ (some 8) Try.func58 #[.int .i64 a0, .slice A1 l1.length c1] ?_; (with_reducible refine (impl_GoodClauses.calls k a0 _ _ l1 false _ ?side1 ?side2 A3.out).mono ?_); (case side1 => exact cm_ HR1.out); (case side2 => exact HC1.out); rintro e w8 ⟨rfl, hb⟩; refine ⟨_, rfl, ?_⟩; replace HB := bs_ hb; (try clear hb)))
  go_ret2
  exact ⟨by first | rfl | (simp [errW_none, errW_some] <;> rfl) | (simp [*, errW_none, errW_some] <;> rfl), bq_⟩
def laws_modelOf.l0 : Nat → Int → List Bool → Int → Int → Option (List Bool)
 | 0, _, _, _, _ => none
 | k + 1, x1, x5, x10, x11 => if x11 < x10 then (if 0 ≤ (IntKind.u64.wrap (x11)) then (if 0 ≤ x11 then (if x11 < (x5.length : Int) then (laws_modelOf.l0 k x1 (x5.set (x11 : Int).toNat ((Go.bits .and .i64 (shr .i64 x1 (IntKind.u64.wrap (x11))) 1) == 1)) x10 (wrap64 (x11 + 1))) else (none)) else (none)) else (none)) else (some x5)
def laws_modelOf.f (k : Nat) (a0 : Int) (a1 : Int) : Option (List Bool) := if 0 ≤ a0 then (if (a0 : Int).toNat ≤ 281474976710656 then ((some (List.replicate (a0 : Int).toNat false : List Bool)).bind fun y486 => (laws_modelOf.l0 k a1 y486 (y486.length : Int) 0)) else (none)) else (none)
set_option maxHeartbeats 8000000 in
set_option maxRecDepth 100000 in
theorem laws_modelOf.calls (k : Nat) (a0 : Int) (a1 : Int) (r : List Bool) (w : World) (h : laws_modelOf.f k a0 a1 = some r) :
  Calls Try.prog 36 #[.int .i64 a0, .int .i64 a1] w fun e w' => ∃ v0_ : Value, e = .returned (v0_) ∧ Kd.R Kd.bool 4 w' w.heap.size (fun _ => True) v0_ r ∧ Below w.heap.size w w' := by
 have HB := am_ (Below.refl w.heap.size w)
 have H : (if 0 ≤ a0 then (if (a0 : Int).toNat ≤ 281474976710656 then ((some (List.replicate (a0 : Int).toNat false : List Bool)).bind fun y486 => (laws_modelOf.l0 k a1 y486 (y486.length : Int) 0)) else (none)) else (none)) = some r := h
 clear h
 by_cases c3 : 0 ≤ a0
 ·rw [if_pos c3] at H
  have c3b0 := eq_true c3
  have c3b1 : decide (0 ≤ a0) = true := decide_eq_true c3
  clear c3
  by_cases c4 : (a0 : Int).toNat ≤ 281474976710656
  ·rw [if_pos c4] at H
   have c4b0 := eq_true c4
   have c4b1 : decide ((a0 : Int).toNat ≤ 281474976710656) = true := decide_eq_true c4
   clear c4
   obtain ⟨y486, hy486⟩ : ∃ y_ : List Bool, y_ = (List.replicate (a0 : Int).toNat false) := ⟨_, rfl⟩
   replace H : (laws_modelOf.l0 k a1 y486 (y486.length : Int) 0) = some r := by first | (rw [hy486]; with_reducible exact H) | (have H2_ := (Option.bind_some _ _).symm.trans H; rw [hy486]; with_reducible exact H2_) | (have H2_ := (Option.bind_some _ _).symm.trans H; with_reducible exact H2_) | with_reducible exact H | (rw [hy486]; exact H) | exact H
   have Ny486 := am_ hy486
   clear hy486
   have H' := am_ H
   clear H
   go_enter Try.func36, Try.ntmps36
   go_wp2_with (first | ((with_reducible refine gate_dst (N := 8) rfl ?_); refine Kd.R_make Kd.bool _ 4 rfl (N := 8) rfl 37 _ _ rfl a0 rfl rfl Try.underlying37 (.bool false) 1 info4 rfl (by decide) (by omega) false (ok := fun _ => True) (okp := fun _ => True) rfl (fun _ hk => hk) trivial (od_) (Nat.le_trans (Nat.mul_le_mul_right _ (od_ : a0.toNat ≤ 281474976710656)) (by omega)) (Below.refl _ _) (Nat.le_refl _) ?_; intro v487 w5 ho6 hb hg_ hnew_; clear hg_ hnew_; (first | rw [← Ny486.out] at ho6 | (simp only [Int.reduceToNat] at ho6; rw [← Ny486.out] at ho6)); have HO488 := am_ (Kd.R_lower ho6 (below_size (bq_))); replace HB := bs_ hb; clear hb ho6; obtain ⟨Ao7, co7, eo7⟩ := Kd.R_slice HO488.out; subst eo7))
   go_loopg [11] k (fun kq v11 w' => ∃ (x5_1 : List Bool) (x11_1 : Int), v11 = .int .i64 x11_1 ∧ Aside0 (laws_modelOf.l0 kq a1 x5_1 (y486.length : Int) x11_1 = some r) ∧ Aside0 (kq ≤ k) ∧ Aside0 (Kd.R Kd.bool 4 w' w.heap.size (fun _ => True) (.slice Ao7 y486.length co7) x5_1) ∧ Aside0 (Below w.heap.size w w'))
   case atStart => exact ⟨(y486), (0), y53_, H', ⟨Nat.le_refl _⟩, ⟨rq_ HO488.out⟩, ⟨bq_⟩⟩
   case round =>
    clear H'
    try clear p2
    try clear c3
    try clear c3b0
    try clear c3b1
    try clear c4
    try clear c4b0
    try clear c4b1
    obtain ⟨x5_1, x11_1, rfl, HA, HK1, HO_5, HB⟩ := hrel
    have hl5_1 := (Kd.R_reads' HO_5.out).1
    rw [hl5_1] at HO_5
    (try simp only [hl5_1])
    cases gk with
    | zero => exact absurd HA.out (by simp [laws_modelOf.l0])
    | succ k1 =>
     have H := HA.out
     clear HA
     simp only [laws_modelOf.l0] at H
     by_cases c8 : x11_1 < (y486.length : Int)
     ·rw [if_pos c8] at H
      have c8b0 : decide (x11_1 < (y486.length : Int)) = true := decide_eq_true c8
      (try (have c8hhl5_1 := c8b0; simp only [hl5_1] at c8hhl5_1))
      clear c8
      obtain ⟨ji9, hji9⟩ : ∃ j_ : Int, (IntKind.u64.wrap (x11_1)) = j_ := ⟨_, rfl⟩
      replace H : (if 0 ≤ (ji9) then (if 0 ≤ x11_1 then (if x11_1 < (x5_1.length : Int) then (laws_modelOf.l0 k1 a1 (x5_1.set (x11_1 : Int).toNat ((Go.bits .and .i64 (shr .i64 a1 (ji9)) 1) == 1)) (y486.length : Int) (wrap64 (x11_1 + 1))) else (none)) else (none)) else (none)) = some r := by first | (rw [hji9] at H; exact H) | (simp only [hji9] at H ⊢; exact H)
      by_cases c10 : 0 ≤ (ji9)
      ·rw [if_pos c10] at H
       have c10b0 := eq_true c10
       have c10b1 : decide (0 ≤ (ji9)) = true := decide_eq_true c10
       clear c10
       obtain ⟨ji11, hji11⟩ : ∃ j_ : Int, (shr .i64 a1 (ji9)) = j_ := ⟨_, rfl⟩
       replace H : (if 0 ≤ x11_1 then (if x11_1 < (x5_1.length : Int) then (laws_modelOf.l0 k1 a1 (x5_1.set (x11_1 : Int).toNat ((Go.bits .and .i64 (ji11) 1) == 1)) (y486.length : Int) (wrap64 (x11_1 + 1))) else (none)) else (none)) = some r := by first | (rw [hji11] at H; exact H) | (simp only [hji11] at H ⊢; exact H)
       have hji11_ : (a1 / 2 ^ min (ji9).toNat 64) = ji11 := hji11
       have hji11z : (ji9) ≤ 64 → (a1 / 2 ^ (ji9).toNat) = ji11 := shr_small hji11
       by_cases c12 : 0 ≤ x11_1
       ·rw [if_pos c12] at H
        have c12b0 : decide (0 ≤ x11_1) = true := decide_eq_true c12
        clear c12
        by_cases c13 : x11_1 < (x5_1.length : Int)
        ·rw [if_pos c13] at H
         have c13b0 : decide (x11_1 < (x5_1.length : Int)) = true := decide_eq_true c13
         (try (have c13hhl5_1 := c13b0; simp only [hl5_1] at c13hhl5_1))
         clear c13
         obtain ⟨y489, hy489⟩ : ∃ y_ : List Bool, y_ = (x5_1.set (x11_1 : Int).toNat ((Go.bits .and .i64 (ji11) 1) == 1)) := ⟨_, rfl⟩
         replace H : (laws_modelOf.l0 k1 a1 y489 (y486.length : Int) (wrap64 (x11_1 + 1))) = some r := by first | (rw [hy489]; with_reducible exact H) | (have H2_ := (Option.bind_some _ _).symm.trans H; rw [hy489]; with_reducible exact H2_) | (have H2_ := (Option.bind_some _ _).symm.trans H; with_reducible exact H2_) | with_reducible exact H | (rw [hy489]; exact H) | exact H
         have Ny489 := am_ hy489
         clear hy489
         have H' := am_ H
         clear H
         have p14 : 0 ≤ (x11_1 : Int) := od_
         have q14 : (x11_1 : Int) < ((x5_1.length : Int) : Int) := od_
         obtain ⟨go14, co14, eo14, gb14, gl14, cl14, HG14⟩ := Kd.R_form HO_5.out (by omega)
         (first | cases eo14 | (injection eo14 with ea_ en_ ec_; (first | subst ea_ | (injection ea_ with ea_; subst ea_)); subst ec_; clear en_))
         have GB14 := am_ gb14
         have GG14 := am_ HG14
         clear gb14 gl14 HG14
         obtain ⟨hx14_0, hf14_0⟩ := Kd.R_celln false HO_5.out (x11_1 : Int) p14 q14
         replace p14 := eq_true p14
         replace q14 := eq_true q14
         have HP15 := Kd.R_putg HO_5.out (x11_1 : Int) ((Go.bits .and .i64 (ji11) 1) == 1)
         go_wp2_with (first | ((with_reducible refine gate_store (t := 4) (p := 22) rfl ?_); refine store_event (t := 4) (p := 22) (v := ?vo_w16) (w1 := (wr.setCell ⟨go14, (x11_1 : Int).toNat, none⟩ (.bool ((Go.bits .and .i64 (ji11) 1) == 1)))) ?hg ?ho ?hn ?hr ?_; (case ho => rfl); (case hg => rfl); (case hn => rfl); (case hr => first | (go_simp; done) | (go_simp; rfl)); intro w16 hw; have hg : wr.grownBy w16 (some go14) := (by rw [hw]; exact HP15.2); have hp_ : Kd.R Kd.bool 4 w16 w.heap.size (fun _ => True) (.slice (some ⟨go14, 0, none⟩) x5_1.length co7) y489 := (by rw [hw, Ny489.out]; exact HP15.1); clear HP15; replace HO_5 := am_ (hp_); replace HB := am_ ((by rw [hw]; exact below_set (HB.out) GB14.out : Below w.heap.size w w16)); clear hg hw hp_))
         (try simp only [← hl5_1])
         go_roundg k1
         case measure => have := HK1.out; omega
         case rel => exact ⟨(y489), (wrap64 (x11_1 + 1)), y53_, H', ⟨by have := HK1.out; omega⟩, ⟨by (try simp only [hl5_1]); (with_reducible repeat (first | apply Kd.R_alloc | apply Kd.R_drewN | apply Kd.R_drew)); exact HO_5.out⟩, ⟨bq_⟩⟩
        ·rw [if_neg c13] at H
         exact absurd H (by simp)
       ·rw [if_neg c12] at H
        exact absurd H (by simp)
      ·rw [if_neg c10] at H
       exact absurd H (by simp)
     ·rw [if_neg c8] at H
      have c8b0 : decide (x11_1 < (y486.length : Int)) = false := decide_eq_false c8
      (try (have c8hhl5_1 := c8b0; simp only [hl5_1] at c8hhl5_1))
      clear c8
      obtain rfl := Option.some.inj H
      go_wp2
      go_ret
      exact ⟨_, by first | rfl | (simp [errW_none, errW_some] <;> rfl) | (simp [*, errW_none, errW_some] <;> rfl), rq_ HO_5.out, bq_⟩
  ·rw [if_neg c4] at H
   exact absurd H (by simp)
 ·rw [if_neg c3] at H
  exact absurd H (by simp)
def impl_HoldsAll.f (k : Nat) (a0 : Int) (l1 : List (List Int)) (l2 : List Bool) : Option (Bool × Bool) := (impl_GoodClauses.f k a0 l1).bind fun t490 => (if t490 = true then (if (l2.length : Int) = a0 then ((impl_holds.f k l1 l2).bind fun t491 => (some (t491, true))) else (some (false, false))) else (some (false, false)))
set_option maxHeartbeats 8000000 in
set_option maxRecDepth 100000 in
theorem impl_HoldsAll.calls (k : Nat) (a0 : Int) (A1 : Option Addr) (c1 : Nat) (l1 : List (List Int)) (A2 : Option Addr) (c2 : Nat) (l2 : List Bool) (r1 : Bool) (r2 : Bool) (w : World) (hr1 : Kd.C (Kd.slice 3 (Kd.int .i64)) w A1 l1.length l1) (hc1 : l1.length ≤ c1) (hr2 : Kd.C Kd.bool w A2 l2.length l2) (hc2 : l2.length ≤ c2) (h : impl_HoldsAll.f k a0 l1 l2 = some (r1, r2)) :
  Calls Try.prog 37 #[.int .i64 a0, .slice A1 l1.length c1, .slice A2 l2.length c2] w fun e w' => e = .returned (.tuple #[.bool r1, .bool r2]) ∧ Below w.heap.size w w' := by
 have HR1 := am_ hr1
 have HC1 := am_ hc1
 clear hr1 hc1
 have HR2 := am_ hr2
 have HC2 := am_ hc2
 clear hr2 hc2
 have HB := am_ (Below.refl w.heap.size w)
 have H : ((impl_GoodClauses.f k a0 l1).bind fun t490 => (if t490 = true then (if (l2.length : Int) = a0 then ((impl_holds.f k l1 l2).bind fun t491 => (some (t491, true))) else (some (false, false))) else (some (false, false)))) = some (r1, r2) := h
 clear h
 replace H := Option.bind_eq_some_iff.mp H
 obtain ⟨t490, A40, H⟩ := H
 replace H : (if t490 = true then (if (l2.length : Int) = a0 then ((impl_holds.f k l1 l2).bind fun t491 => (some (t491, true))) else (some (false, false))) else (some (false, false))) = some (r1, r2) := H
 have A4 := am_ A40
 clear A40
 by_cases c5 : t490 = true
 ·subst c5
  have H1 : (if (l2.length : Int) = a0 then ((impl_holds.f k l1 l2).bind fun t491 => (some (t491, true))) else (some (false, false))) = some (r1, r2) := by rw [if_pos rfl] at H; exact H
  clear H
  have H := H1
  clear H1
  by_cases c6 : (l2.length : Int) = a0
  ·rw [if_pos c6] at H
   have c6b0 : ((l2.length : Int) == a0) = true := beq_iff_eq.mpr c6
   have c6b1 : ((l2.length : Int) != a0) = false := bne_eq_false_iff_eq.mpr c6
   clear c6
   replace H := Option.bind_eq_some_iff.mp H
   obtain ⟨t491, A70, H⟩ := H
   replace H : (some (t491, true)) = some (r1, r2) := H
   have A7 := am_ A70
   clear A70
   simp only [Option.some.injEq, Prod.mk.injEq] at H
   obtain ⟨rfl, rfl⟩ := H
   go_enter Try.func37, Try.ntmps37
   go_wp2_with (first | ((with_reducible refine gl_ 58 rfl ?_); refine goesM_ (some 10) Try.func58 #[.int .i64 a0, .slice A1 l1.length c1] ?_; (with_reducible refine (impl_GoodClauses.calls k a0 _ _ l1 true _ ?side1 ?side2 A4.out).mono ?_); (case side1 => exact cm_ HR1.out); (case side2 => exact HC1.out); rintro e w8 ⟨rfl, hb⟩; refine ⟨_, rfl, ?_⟩; replace HB := bs_ hb; (try clear hb)) | ((with_reducible refine gl_ 67 rfl ?_); refine goesM_ (some 20) Try.func67 #[.slice A1 l1.length c1, .slice A2 l2.length c2] ?_; (with_reducible refine (impl_holds.calls k _ _ l1 _ _ l2 t491 _ ?side1 ?side2 ?side3 ?side4 A7.out).mono ?_); (case side1 => exact cm_ (Kd.C_below HR1.out HB.out)); (case side2 => exact HC1.out); (case side3 => exact cm_ (Kd.C_below HR2.out HB.out)); (case side4 => exact HC2.out); rintro e w9 ⟨rfl, hb⟩; refine ⟨_, rfl, ?_⟩; replace HB := bs_ hb; (try clear hb)))
   go_ret2
   exact ⟨by first | rfl | (simp [errW_none, errW_some] <;> rfl) | (simp [*, errW_none, errW_some] <;> rfl), bq_⟩
  ·rw [if_neg c6] at H
   have c6b0 : ((l2.length : Int) == a0) = false := beq_eq_false_iff_ne.mpr c6
   have c6b1 : ((l2.length : Int) != a0) = true := bne_iff_ne.mpr c6
   simp only [Option.some.injEq, Prod.mk.injEq] at H
   obtain ⟨rfl, rfl⟩ := H
   go_enter Try.func37, Try.ntmps37
   go_wp2_with (first | ((with_reducible refine gl_ 58 rfl ?_); refine goesM_ (some 10) Try.func58 #[.int .i64 a0, .slice A1 l1.length c1] ?_; (with_reducible refine (impl_GoodClauses.calls k a0 _ _ l1 true _ ?side1 ?side2 A4.out).mono ?_); (case side1 => exact cm_ HR1.out); (case side2 => exact HC1.out); rintro e w10 ⟨rfl, hb⟩; refine ⟨_, rfl, ?_⟩; replace HB := bs_ hb; (try clear hb)))
   go_ret2
   exact ⟨by first | rfl | (simp [errW_none, errW_some] <;> rfl) | (simp [*, errW_none, errW_some] <;> rfl), bq_⟩
 ·replace c5 := Bool.eq_false_iff.mpr c5
  subst c5
  have H1 : (some (false, false)) = some (r1, r2) := by rw [if_neg (show ¬ (false = true) by decide)] at H; exact H
  clear H
  have H := H1
  clear H1
  simp only [Option.some.injEq, Prod.mk.injEq] at H
  obtain ⟨rfl, rfl⟩ := H
  go_enter Try.func37, Try.ntmps37
  go_wp2_with (first | ((with_reducible refine gl_ 58 rfl ?_); refine goesM_ (some 10) Try.func58 #[.int .i64 a0, .slice A1 l1.length c1] ?_; (with_reducible refine (impl_GoodClauses.calls k a0 _ _ l1 false _ ?side1 ?side2 A4.out).mono ?_); (case side1 => exact cm_ HR1.out); (case side2 => exact HC1.out); rintro e w11 ⟨rfl, hb⟩; refine ⟨_, rfl, ?_⟩; replace HB := bs_ hb; (try clear hb)))
  go_ret2
  exact ⟨by first | rfl | (simp [errW_none, errW_some] <;> rfl) | (simp [*, errW_none, errW_some] <;> rfl), bq_⟩
def spec_DrawAlwaysSame.f (k : Nat) (l0 : List Int) : Option ((List (S69)) × (List (S69))) := (spec_l1Cur_gates.f k l0 0 0).bind fun bt493 => ((spec_l1Cur_one.f l0 bt493.2.1 bt493.2.2 2).bind fun bt498 => (if bt498.1 = true then ((some (([] : List (S69)) : List (S69))).bind fun y501 => (if y501.length + bt493.1.length < 5864062014805 then ((some (y501 ++ bt493.1 : List (S69))).bind fun y504 => (if y504.length < 5864062014805 then ((some (y504 ++ [(⟨2, wrap64 ((y504.length : Int) - 1), 0⟩ : S69)] : List (S69))).bind fun y507 => (if y507.length < 5864062014805 then (some (bt493.1, (y507 ++ [(⟨2, wrap64 ((y507.length : Int) - 1), 0⟩ : S69)]))) else (none))) else (none))) else (none))) else ((spec_l1Cur_gates.f k l0 bt498.2.1 bt498.2.2).bind fun bt513 => (some (bt493.1, bt513.1)))))
set_option maxHeartbeats 8000000 in
set_option maxRecDepth 100000 in
theorem spec_DrawAlwaysSame.calls (k : Nat) (A0 : Option Addr) (c0 : Nat) (l0 : List Int) (r1 : List (S69)) (r2 : List (S69)) (w : World) (hr0 : Kd.C (Kd.int .u8) w A0 l0.length l0) (hc0 : l0.length ≤ c0) (h : spec_DrawAlwaysSame.f k l0 = some (r1, r2)) :
  Calls Try.prog 38 #[.slice A0 l0.length c0] w fun e w' => ∃ v0_ v1_ : Value, e = .returned (.tuple #[v0_, v1_]) ∧ Kd.R k69 69 w' w.heap.size (fun k_ => some k_ ≠ (v1_ : Value).ownBlock) v0_ r1 ∧ Kd.R k69 69 w' w.heap.size (fun k_ => some k_ ≠ (v0_ : Value).ownBlock) v1_ r2 ∧ Below w.heap.size w w' := by
 have hu80 := Try.underlying80
 have hu69 := Try.underlying69
 have HR0 := am_ hr0
 have HC0 := am_ hc0
 clear hr0 hc0
 have HB := am_ (Below.refl w.heap.size w)
 have H : ((spec_l1Cur_gates.f k l0 0 0).bind fun bt493 => ((spec_l1Cur_one.f l0 bt493.2.1 bt493.2.2 2).bind fun bt498 => (if bt498.1 = true then ((some (([] : List (S69)) : List (S69))).bind fun y501 => (if y501.length + bt493.1.length < 5864062014805 then ((some (y501 ++ bt493.1 : List (S69))).bind fun y504 => (if y504.length < 5864062014805 then ((some (y504 ++ [(⟨2, wrap64 ((y504.length : Int) - 1), 0⟩ : S69)] : List (S69))).bind fun y507 => (if y507.length < 5864062014805 then (some (bt493.1, (y507 ++ [(⟨2, wrap64 ((y507.length : Int) - 1), 0⟩ : S69)]))) else (none))) else (none))) else (none))) else ((spec_l1Cur_gates.f k l0 bt498.2.1 bt498.2.2).bind fun bt513 => (some (bt493.1, bt513.1)))))) = some (r1, r2) := h
 clear h
 replace H := Option.bind_eq_some_iff.mp H
 obtain ⟨⟨t493, t496, t497⟩, A20, H⟩ := H
 replace H : ((spec_l1Cur_one.f l0 t496 t497 2).bind fun bt498 => (if bt498.1 = true then ((some (([] : List (S69)) : List (S69))).bind fun y501 => (if y501.length + t493.length < 5864062014805 then ((some (y501 ++ t493 : List (S69))).bind fun y504 => (if y504.length < 5864062014805 then ((some (y504 ++ [(⟨2, wrap64 ((y504.length : Int) - 1), 0⟩ : S69)] : List (S69))).bind fun y507 => (if y507.length < 5864062014805 then (some (t493, (y507 ++ [(⟨2, wrap64 ((y507.length : Int) - 1), 0⟩ : S69)]))) else (none))) else (none))) else (none))) else ((spec_l1Cur_gates.f k l0 bt498.2.1 bt498.2.2).bind fun bt513 => (some (t493, bt513.1))))) = some (r1, r2) := H
 have A2 := am_ A20
 clear A20
 replace H := Option.bind_eq_some_iff.mp H
 obtain ⟨⟨t498, t499, t500⟩, A30, H⟩ := H
 replace H : (if t498 = true then ((some (([] : List (S69)) : List (S69))).bind fun y501 => (if y501.length + t493.length < 5864062014805 then ((some (y501 ++ t493 : List (S69))).bind fun y504 => (if y504.length < 5864062014805 then ((some (y504 ++ [(⟨2, wrap64 ((y504.length : Int) - 1), 0⟩ : S69)] : List (S69))).bind fun y507 => (if y507.length < 5864062014805 then (some (t493, (y507 ++ [(⟨2, wrap64 ((y507.length : Int) - 1), 0⟩ : S69)]))) else (none))) else (none))) else (none))) else ((spec_l1Cur_gates.f k l0 t499 t500).bind fun bt513 => (some (t493, bt513.1)))) = some (r1, r2) := H
 have A3 := am_ A30
 clear A30
 by_cases c4 : t498 = true
 ·subst c4
  have H1 : ((some (([] : List (S69)) : List (S69))).bind fun y501 => (if y501.length + t493.length < 5864062014805 then ((some (y501 ++ t493 : List (S69))).bind fun y504 => (if y504.length < 5864062014805 then ((some (y504 ++ [(⟨2, wrap64 ((y504.length : Int) - 1), 0⟩ : S69)] : List (S69))).bind fun y507 => (if y507.length < 5864062014805 then (some (t493, (y507 ++ [(⟨2, wrap64 ((y507.length : Int) - 1), 0⟩ : S69)]))) else (none))) else (none))) else (none))) = some (r1, r2) := by rw [if_pos rfl] at H; exact H
  clear H
  have H := H1
  clear H1
  obtain ⟨y501, hy501⟩ : ∃ y_ : List (S69), y_ = (([] : List (S69))) := ⟨_, rfl⟩
  replace H : (if y501.length + t493.length < 5864062014805 then ((some (y501 ++ t493 : List (S69))).bind fun y504 => (if y504.length < 5864062014805 then ((some (y504 ++ [(⟨2, wrap64 ((y504.length : Int) - 1), 0⟩ : S69)] : List (S69))).bind fun y507 => (if y507.length < 5864062014805 then (some (t493, (y507 ++ [(⟨2, wrap64 ((y507.length : Int) - 1), 0⟩ : S69)]))) else (none))) else (none))) else (none)) = some (r1, r2) := by first | (rw [hy501]; with_reducible exact H) | (have H2_ := (Option.bind_some _ _).symm.trans H; rw [hy501]; with_reducible exact H2_) | (have H2_ := (Option.bind_some _ _).symm.trans H; with_reducible exact H2_) | with_reducible exact H | (rw [hy501]; exact H) | exact H
  have Ny501 := am_ hy501
  clear hy501
  by_cases c5 : y501.length + t493.length < 5864062014805
  ·rw [if_pos c5] at H
   have LMc5 := am_ c5
   clear c5
   obtain ⟨y504, hy504⟩ : ∃ y_ : List (S69), y_ = (y501 ++ t493) := ⟨_, rfl⟩
   replace H : (if y504.length < 5864062014805 then ((some (y504 ++ [(⟨2, wrap64 ((y504.length : Int) - 1), 0⟩ : S69)] : List (S69))).bind fun y507 => (if y507.length < 5864062014805 then (some (t493, (y507 ++ [(⟨2, wrap64 ((y507.length : Int) - 1), 0⟩ : S69)]))) else (none))) else (none)) = some (r1, r2) := by first | (rw [hy504]; with_reducible exact H) | (have H2_ := (Option.bind_some _ _).symm.trans H; rw [hy504]; with_reducible exact H2_) | (have H2_ := (Option.bind_some _ _).symm.trans H; with_reducible exact H2_) | with_reducible exact H | (rw [hy504]; exact H) | exact H
   have Ny504 := am_ hy504
   clear hy504
   by_cases c6 : y504.length < 5864062014805
   ·rw [if_pos c6] at H
    have LMc6 := am_ c6
    clear c6
    obtain ⟨y507, hy507⟩ : ∃ y_ : List (S69), y_ = (y504 ++ [(⟨2, wrap64 ((y504.length : Int) - 1), 0⟩ : S69)]) := ⟨_, rfl⟩
    replace H : (if y507.length < 5864062014805 then (some (t493, (y507 ++ [(⟨2, wrap64 ((y507.length : Int) - 1), 0⟩ : S69)]))) else (none)) = some (r1, r2) := by first | (rw [hy507]; with_reducible exact H) | (have H2_ := (Option.bind_some _ _).symm.trans H; rw [hy507]; with_reducible exact H2_) | (have H2_ := (Option.bind_some _ _).symm.trans H; with_reducible exact H2_) | with_reducible exact H | (rw [hy507]; exact H) | exact H
    have Ny507 := am_ hy507
    clear hy507
    by_cases c7 : y507.length < 5864062014805
    ·rw [if_pos c7] at H
     have LMc7 := am_ c7
     clear c7
     obtain ⟨y510, hy510⟩ : ∃ y_ : List (S69), y_ = (y507 ++ [(⟨2, wrap64 ((y507.length : Int) - 1), 0⟩ : S69)]) := ⟨_, rfl⟩
     replace H : (some (t493, y510)) = some (r1, r2) := by first | (rw [hy510]; with_reducible exact H) | (have H2_ := (Option.bind_some _ _).symm.trans H; rw [hy510]; with_reducible exact H2_) | (have H2_ := (Option.bind_some _ _).symm.trans H; with_reducible exact H2_) | with_reducible exact H | (rw [hy510]; exact H) | exact H
     have Ny510 := am_ hy510
     clear hy510
     simp only [Option.some.injEq, Prod.mk.injEq] at H
     obtain ⟨rfl, rfl⟩ := H
     go_enter Try.func38, Try.ntmps38
     go_wp2_with (first | ((with_reducible refine gate_dst (N := 9) rfl ?_); refine boxq_ (N := 9) (cs := #[.slice A0 l0.length c0, .int .i64 0, .int .u64 0]) (t := 80) ?_; intro gb492 hg w8 hbox hb; have HI492 := am_ ((show IsS80 w w8 gb492 l0 0 0 from ⟨_, _, hbox, (by rw [hg]; exact (below_size (bq_))), HR0.out⟩)); replace HB := bs_ hb; clear hb hbox hg) | ((with_reducible refine gl_ 50 rfl ?_); refine goesM_ (some 11) Try.func50 #[.pointer (some ⟨gb492, 0, none⟩)] ?_; (with_reducible refine (spec_l1Cur_gates.calls k gb492 l0 0 0 t493 t496 t497 w _ ?side1 ?side2 A2.out).mono ?_); (case side1 => repeat (first | (with_reducible first | exact HI492.out | apply IsS80.alloc | apply IsS80.drewN | apply IsS80.drew | apply IsS80.set_1 | apply IsS80.set_2) | exact HI492.out)); (case side2 => repeat (first | (with_reducible first | exact HB.out | apply below_alloc | apply pw_below_drewN | apply below_drew1 | refine below_set ?_ (IsS80.ge HI492.out)) | exact HB.out)); rintro e w9 ⟨v494, rfl, ho0, hi, hb, hk⟩; refine ⟨_, rfl, ?_⟩; have HO495 := am_ (Kd.R_lower ho0 (below_size y8_)); replace HB := am_ (hb); replace HI492 := am_ (hi); (try clear hb); (try clear hk); (try clear hi); (try clear ho0)) | ((with_reducible refine gl_ 68 rfl ?_); refine goesM_ (some 13) Try.func68 #[.pointer (some ⟨gb492, 0, none⟩), .int .i64 2] ?_; (with_reducible refine (spec_l1Cur_one.calls gb492 l0 t496 t497 2 true t499 t500 w _ ?side1 ?side2 A3.out).mono ?_); (case side1 => repeat (first | (with_reducible first | exact HI492.out | apply IsS80.alloc | apply IsS80.drewN | apply IsS80.drew | apply IsS80.set_1 | apply IsS80.set_2) | exact HI492.out)); (case side2 => repeat (first | (with_reducible first | exact HB.out | apply below_alloc | apply pw_below_drewN | apply below_drew1 | refine below_set ?_ (IsS80.ge HI492.out)) | exact HB.out)); rintro e w10 ⟨rfl, hi, hb, hk⟩; refine ⟨_, rfl, ?_⟩; replace HO495 := am_ (Kd.R_mono (Kd.R_keep (IsS80.apart (show IsS80 w _ gb492 l0 t496 t497 from by repeat (first | (with_reducible first | exact HI492.out | apply IsS80.alloc | apply IsS80.drewN | apply IsS80.drew | apply IsS80.set_1 | apply IsS80.set_2) | exact HI492.out)) (rq_ HO495.out) (by decide)) hk (fun _ h => h.2)) (fun _ h => h.1)); replace HB := am_ (hb); replace HI492 := am_ (hi); (try clear hb); (try clear hk); (try clear hi)) | ((with_reducible refine gate_dst (N := 14) rfl ?_); refine Kd.R_lit k69 _ 69 ?hg (N := 14) ?hd (xs := ([] : List (S69))) (inner := []) (ok := fun _ => True) (okp := fun _ => True) ?hr ?hp (fun _ hk => hk) trivial (Below.refl _ _) (Nat.le_refl _) (by simp) ?_; (case hd => rfl); (case hg => rfl); (case hr => first | (go_simp; done) | (go_simp; rfl)); (case hp => exact (Reps.none _ _)); intro v502 w11 ho12 hb hg_ hnew_; clear hg_ hnew_; (first | rw [← Ny501.out] at ho12 | (simp only [Int.reduceToNat] at ho12; rw [← Ny501.out] at ho12)); have HO503 := am_ (Kd.R_lower (Kd.R_new' ho12 (Kd.R_lt (rq_ HO495.out))) (below_size y8_)); replace HO495 := am_ (Kd.R_elder' (rq_ HO495.out) (Kd.R_base ho12) hb); replace HB := am_ (below_step y8_ hb); replace HI492 := am_ (IsS80.below y9_ hb); clear hb ho12; obtain ⟨Ao14, co14, eo14⟩ := Kd.R_slice HO495.out; subst eo14) | ((with_reducible refine gate_builtin (b := .append) (xs := #[.tmp 14, .tmp 15]) rfl ?_); at_builtin; refine Kd.R_append_rows k69 (w0 := w) w.heap.size rfl (.tmp 14) (.tmp 15) 27 69 (.agg #[(.int .i64 0), (.int .i64 0), (.int .i64 0)]) 24 rfl Try.underlying27 info69 rfl (by decide) (by omega) v502 y501 t493 _ _ _ (fun k_ => some k_ ≠ (.slice Ao14 t493.length co14 : Value).ownBlock) (fun _ => False) rfl rfl ?aO ?aR (fun _ _ h => h) (fun _ h => h.elim) ?aF ?aB ?aS ?aL ?_; (case aR => exact cm_ (Kd.R_reads' HO495.out).2.2); (case aB => exact y8_); (case aF => exact (fun k_ hk => Kd.fresh' (Kd.R_lt (rq_ HO495.out)) k_ hk)); (case aO => exact (rq_ (Kd.R_mono HO503.out (fun _ hk => hk.2)))); (case aS => exact (below_size y8_)); (case aL => have := LMc5.out; omega); intro v505 w13 ho hb hg hat; rw [← Ny504.out] at ho; replace HI492 := am_ (IsS80.grown y9_ hg (IsS80.own_ne HI492.out HO503.out (by decide))); replace HO495 := am_ (Kd.R_after (ok := (fun _ => True)) (rq_ HO495.out) hg hat); replace HB := am_ (hb); have HO506 := am_ (ho); clear HO503; clear ho hb hg hat; obtain ⟨Ao15, co15, eo15⟩ := Kd.R_slice HO506.out; subst eo15) | ((with_reducible refine gate_builtin (b := .append) (xs := #[.tmp 17, .tmp 22]) rfl ?_); at_builtin; refine Kd.R_append k69 (w0 := w) w.heap.size rfl (.tmp 17) (.tmp 22) 27 69 (.agg #[(.int .i64 0), (.int .i64 0), (.int .i64 0)]) 24 rfl Try.underlying27 info69 rfl (by decide) (by omega) (.slice Ao15 y504.length co15) y504 (⟨2, wrap64 ((y504.length : Int) - 1), 0⟩ : S69) [.int .i64 2, .int .i64 (wrap64 ((y504.length : Int) - 1)), .int .i64 0] (fun k_ => some k_ ≠ (.slice Ao14 t493.length co14 : Value).ownBlock) (fun _ => False) rfl rfl ?aP (fun _ hk => hk.elim) ?aF ?aO ?aB ?aS ?aL ?_; (case aP => exact k69_mkM _ _ _ (⟨2, wrap64 ((y504.length : Int) - 1), 0⟩ : S69)); (case aB => exact y8_); (case aF => exact (fun k_ hk => Kd.fresh' (Kd.R_lt (rq_ HO495.out)) k_ hk)); (case aO => exact (rq_ HO506.out)); (case aS => exact (below_size y8_)); (case aL => have := LMc6.out; omega); intro v508 w16 ho hb hg hat; rw [← Ny507.out] at ho; replace HI492 := am_ (IsS80.grown y9_ hg (IsS80.own_ne HI492.out HO506.out (by decide))); replace HO495 := am_ (Kd.R_after (ok := (fun _ => True)) (rq_ HO495.out) hg hat); replace HB := am_ (hb); have HO509 := am_ (ho); clear HO506; clear ho hb hg hat; obtain ⟨Ao17, co17, eo17⟩ := Kd.R_slice HO509.out; subst eo17) | ((with_reducible refine gate_builtin (b := .append) (xs := #[.tmp 25, .tmp 30]) rfl ?_); at_builtin; refine Kd.R_append k69 (w0 := w) w.heap.size rfl (.tmp 25) (.tmp 30) 27 69 (.agg #[(.int .i64 0), (.int .i64 0), (.int .i64 0)]) 24 rfl Try.underlying27 info69 rfl (by decide) (by omega) (.slice Ao17 y507.length co17) y507 (⟨2, wrap64 ((y507.length : Int) - 1), 0⟩ : S69) [.int .i64 2, .int .i64 (wrap64 ((y507.length : Int) - 1)), .int .i64 0] (fun k_ => some k_ ≠ (.slice Ao14 t493.length co14 : Value).ownBlock) (fun _ => False) rfl rfl ?aP (fun _ hk => hk.elim) ?aF ?aO ?aB ?aS ?aL ?_; (case aP => exact k69_mkM _ _ _ (⟨2, wrap64 ((y507.length : Int) - 1), 0⟩ : S69)); (case aB => exact y8_); (case aF => exact (fun k_ hk => Kd.fresh' (Kd.R_lt (rq_ HO495.out)) k_ hk)); (case aO => exact (rq_ HO509.out)); (case aS => exact (below_size y8_)); (case aL => have := LMc7.out; omega); intro v511 w18 ho hb hg hat; rw [← Ny510.out] at ho; replace HI492 := am_ (IsS80.grown y9_ hg (IsS80.own_ne HI492.out HO509.out (by decide))); replace HO495 := am_ (Kd.R_after (ok := (fun _ => True)) (rq_ HO495.out) hg hat); replace HB := am_ (hb); have HO512 := am_ (ho); clear HO509; clear ho hb hg hat))
     go_ret2
     exact ⟨_, _, by first | rfl | (simp [errW_none, errW_some] <;> rfl) | (simp [*, errW_none, errW_some] <;> rfl), rq_ (Kd.R_mono HO495.out (fun _ hk => hk.2)), rq_ HO512.out, by repeat (first | (with_reducible first | exact HB.out | apply below_alloc | apply pw_below_drewN | apply below_drew1 | refine below_set ?_ (IsS80.ge HI492.out)) | exact HB.out)⟩
    ·rw [if_neg c7] at H
     exact absurd H (by simp)
   ·rw [if_neg c6] at H
    exact absurd H (by simp)
  ·rw [if_neg c5] at H
   exact absurd H (by simp)
 ·replace c4 := Bool.eq_false_iff.mpr c4
  subst c4
  have H1 : ((spec_l1Cur_gates.f k l0 t499 t500).bind fun bt513 => (some (t493, bt513.1))) = some (r1, r2) := by rw [if_neg (show ¬ (false = true) by decide)] at H; exact H
  clear H
  have H := H1
  clear H1
  replace H := Option.bind_eq_some_iff.mp H
  obtain ⟨⟨t513, t516, t517⟩, A190, H⟩ := H
  replace H : (some (t493, t513)) = some (r1, r2) := H
  have A19 := am_ A190
  clear A190
  simp only [Option.some.injEq, Prod.mk.injEq] at H
  obtain ⟨rfl, rfl⟩ := H
  go_enter Try.func38, Try.ntmps38
  go_wp2_with (first | ((with_reducible refine gate_dst (N := 9) rfl ?_); refine boxq_ (N := 9) (cs := #[.slice A0 l0.length c0, .int .i64 0, .int .u64 0]) (t := 80) ?_; intro gb492 hg w20 hbox hb; have HI492 := am_ ((show IsS80 w w20 gb492 l0 0 0 from ⟨_, _, hbox, (by rw [hg]; exact (below_size (bq_))), HR0.out⟩)); replace HB := bs_ hb; clear hb hbox hg) | ((with_reducible refine gl_ 50 rfl ?_); refine goesM_ (some 11) Try.func50 #[.pointer (some ⟨gb492, 0, none⟩)] ?_; (with_reducible refine (spec_l1Cur_gates.calls k gb492 l0 0 0 t493 t496 t497 w _ ?side1 ?side2 A2.out).mono ?_); (case side1 => repeat (first | (with_reducible first | exact HI492.out | apply IsS80.alloc | apply IsS80.drewN | apply IsS80.drew | apply IsS80.set_1 | apply IsS80.set_2) | exact HI492.out)); (case side2 => repeat (first | (with_reducible first | exact HB.out | apply below_alloc | apply pw_below_drewN | apply below_drew1 | refine below_set ?_ (IsS80.ge HI492.out)) | exact HB.out)); rintro e w21 ⟨v494, rfl, ho0, hi, hb, hk⟩; refine ⟨_, rfl, ?_⟩; have HO495 := am_ (Kd.R_lower ho0 (below_size y8_)); replace HB := am_ (hb); replace HI492 := am_ (hi); (try clear hb); (try clear hk); (try clear hi); (try clear ho0)) | ((with_reducible refine gl_ 68 rfl ?_); refine goesM_ (some 13) Try.func68 #[.pointer (some ⟨gb492, 0, none⟩), .int .i64 2] ?_; (with_reducible refine (spec_l1Cur_one.calls gb492 l0 t496 t497 2 false t499 t500 w _ ?side1 ?side2 A3.out).mono ?_); (case side1 => repeat (first | (with_reducible first | exact HI492.out | apply IsS80.alloc | apply IsS80.drewN | apply IsS80.drew | apply IsS80.set_1 | apply IsS80.set_2) | exact HI492.out)); (case side2 => repeat (first | (with_reducible first | exact HB.out | apply below_alloc | apply pw_below_drewN | apply below_drew1 | refine below_set ?_ (IsS80.ge HI492.out)) | exact HB.out)); rintro e w22 ⟨rfl, hi, hb, hk⟩; refine ⟨_, rfl, ?_⟩; replace HO495 := am_ (Kd.R_mono (Kd.R_keep (IsS80.apart (show IsS80 w _ gb492 l0 t496 t497 from by repeat (first | (with_reducible first | exact HI492.out | apply IsS80.alloc | apply IsS80.drewN | apply IsS80.drew | apply IsS80.set_1 | apply IsS80.set_2) | exact HI492.out)) (rq_ HO495.out) (by decide)) hk (fun _ h => h.2)) (fun _ h => h.1)); replace HB := am_ (hb); replace HI492 := am_ (hi); (try clear hb); (try clear hk); (try clear hi)) | ((with_reducible refine gl_ 50 rfl ?_); refine goesM_ (some 34) Try.func50 #[.pointer (some ⟨gb492, 0, none⟩)] ?_; (with_reducible refine (spec_l1Cur_gates.calls k gb492 l0 t499 t500 t513 t516 t517 w _ ?side1 ?side2 A19.out).mono ?_); (case side1 => repeat (first | (with_reducible first | exact HI492.out | apply IsS80.alloc | apply IsS80.drewN | apply IsS80.drew | apply IsS80.set_1 | apply IsS80.set_2) | exact HI492.out)); (case side2 => repeat (first | (with_reducible first | exact HB.out | apply below_alloc | apply pw_below_drewN | apply below_drew1 | refine below_set ?_ (IsS80.ge HI492.out)) | exact HB.out)); rintro e w23 ⟨v514, rfl, ho0, hi, hb, hk⟩; refine ⟨_, rfl, ?_⟩; have HO515 := am_ (Kd.R_lower (Kd.R_new' ho0 (Kd.R_lt (rq_ HO495.out))) (below_size y8_)); replace HO495 := am_ (Kd.R_mono (Kd.R_told (Kd.R_oldK (IsS80.apart (show IsS80 w _ gb492 l0 t499 t500 from by repeat (first | (with_reducible first | exact HI492.out | apply IsS80.alloc | apply IsS80.drewN | apply IsS80.drew | apply IsS80.set_1 | apply IsS80.set_2) | exact HI492.out)) (rq_ HO495.out) (by decide)) hk) (Kd.R_base ho0)) (fun _ h_ => h_.1)); replace HB := am_ (hb); replace HI492 := am_ (hi); (try clear hb); (try clear hk); (try clear hi); (try clear ho0)))
  go_ret2
  exact ⟨_, _, by first | rfl | (simp [errW_none, errW_some] <;> rfl) | (simp [*, errW_none, errW_some] <;> rfl), rq_ (Kd.R_mono HO495.out (fun _ hk => hk.2)), rq_ (Kd.R_mono HO515.out (fun _ hk => hk.2)), by repeat (first | (with_reducible first | exact HB.out | apply below_alloc | apply pw_below_drewN | apply below_drew1 | refine below_set ?_ (IsS80.ge HI492.out)) | exact HB.out)⟩
mutual
def impl_AlwaysSame.j0 : Nat → List (S69) → List (S69) → Bool → Option (Bool × Bool)
 | 0, _, _, _ => none
 | k + 1, x0, x1, x25 => if x25 = true then (some (false, false)) else ((impl_inputs.f k x0).bind fun t526 => (impl_AlwaysSame.l0 k x0 x1 (t526.length : Int) (shl .i64 1 (t526.length : Int)) 0))
def impl_AlwaysSame.l0 : Nat → List (S69) → List (S69) → Int → Int → Int → Option (Bool × Bool)
 | 0, _, _, _, _, _ => none
 | k + 1, x0, x1, x6, x30, x31 => if x31 < x30 then ((impl_model.f k x6 x31).bind fun t529 => ((impl_output.f k x0 t529).bind fun t532 => ((impl_output.f k x1 t529).bind fun t533 => (if (t532 != t533) = true then (some (false, true)) else (impl_AlwaysSame.l0 k x0 x1 x6 x30 (wrap64 (x31 + 1))))))) else (some (true, true))
end
def impl_AlwaysSame.f (k : Nat) (l0 : List (S69)) (l1 : List (S69)) : Option (Bool × Bool) := (impl_GoodGates.f k l0).bind fun t518 => (if t518 = true then ((impl_GoodGates.f k l1).bind fun t519 => (if t519 = true then ((impl_inputs.f k l0).bind fun t520 => ((impl_inputs.f k l1).bind fun t523 => (impl_AlwaysSame.j0 k l0 l1 ((t520.length : Int) != (t523.length : Int))))) else (impl_AlwaysSame.j0 k l0 l1 true))) else (impl_AlwaysSame.j0 k l0 l1 true))
set_option maxHeartbeats 8000000 in
set_option maxRecDepth 100000 in
theorem impl_AlwaysSame.calls (k : Nat) (A0 : Option Addr) (c0 : Nat) (l0 : List (S69)) (A1 : Option Addr) (c1 : Nat) (l1 : List (S69)) (r1 : Bool) (r2 : Bool) (w : World) (hr0 : Kd.C k69 w A0 l0.length l0) (hc0 : l0.length ≤ c0) (hr1 : Kd.C k69 w A1 l1.length l1) (hc1 : l1.length ≤ c1) (h : impl_AlwaysSame.f k l0 l1 = some (r1, r2)) :
  Calls Try.prog 39 #[.slice A0 l0.length c0, .slice A1 l1.length c1] w fun e w' => e = .returned (.tuple #[.bool r1, .bool r2]) ∧ Below w.heap.size w w' := by
 have HR0 := am_ hr0
 have HC0 := am_ hc0
 clear hr0 hc0
 have HR1 := am_ hr1
 have HC1 := am_ hc1
 clear hr1 hc1
 have HB := am_ (Below.refl w.heap.size w)
 have H : ((impl_GoodGates.f k l0).bind fun t518 => (if t518 = true then ((impl_GoodGates.f k l1).bind fun t519 => (if t519 = true then ((impl_inputs.f k l0).bind fun t520 => ((impl_inputs.f k l1).bind fun t523 => (impl_AlwaysSame.j0 k l0 l1 ((t520.length : Int) != (t523.length : Int))))) else (impl_AlwaysSame.j0 k l0 l1 true))) else (impl_AlwaysSame.j0 k l0 l1 true))) = some (r1, r2) := h
 clear h
 have HC3 := am_ H
 clear H
 go_enter Try.func39, Try.ntmps39
 go_upto_region 1 with (fail)
 go_cut [25] (fun v25 wc => ∃ (kq : Nat) (x25_2 : Bool), v25 = .bool x25_2 ∧ Aside0 (impl_AlwaysSame.j0 kq l0 l1 x25_2 = some (r1, r2)) ∧ Aside0 (kq ≤ k) ∧ Aside0 (Below w.heap.size w wc))
 case first =>
  have H := HC3.out
  clear HC3
  replace H := Option.bind_eq_some_iff.mp H
  obtain ⟨t518, A40, H⟩ := H
  replace H : (if t518 = true then ((impl_GoodGates.f k l1).bind fun t519 => (if t519 = true then ((impl_inputs.f k l0).bind fun t520 => ((impl_inputs.f k l1).bind fun t523 => (impl_AlwaysSame.j0 k l0 l1 ((t520.length : Int) != (t523.length : Int))))) else (impl_AlwaysSame.j0 k l0 l1 true))) else (impl_AlwaysSame.j0 k l0 l1 true)) = some (r1, r2) := H
  have A4 := am_ A40
  clear A40
  by_cases c5 : t518 = true
  ·subst c5
   have H1 : ((impl_GoodGates.f k l1).bind fun t519 => (if t519 = true then ((impl_inputs.f k l0).bind fun t520 => ((impl_inputs.f k l1).bind fun t523 => (impl_AlwaysSame.j0 k l0 l1 ((t520.length : Int) != (t523.length : Int))))) else (impl_AlwaysSame.j0 k l0 l1 true))) = some (r1, r2) := by rw [if_pos rfl] at H; exact H
   clear H
   have H := H1
   clear H1
   replace H := Option.bind_eq_some_iff.mp H
   obtain ⟨t519, A60, H⟩ := H
   replace H : (if t519 = true then ((impl_inputs.f k l0).bind fun t520 => ((impl_inputs.f k l1).bind fun t523 => (impl_AlwaysSame.j0 k l0 l1 ((t520.length : Int) != (t523.length : Int))))) else (impl_AlwaysSame.j0 k l0 l1 true)) = some (r1, r2) := H
   have A6 := am_ A60
   clear A60
   by_cases c7 : t519 = true
   ·subst c7
    have H1 : ((impl_inputs.f k l0).bind fun t520 => ((impl_inputs.f k l1).bind fun t523 => (impl_AlwaysSame.j0 k l0 l1 ((t520.length : Int) != (t523.length : Int))))) = some (r1, r2) := by rw [if_pos rfl] at H; exact H
    clear H
    have H := H1
    clear H1
    replace H := Option.bind_eq_some_iff.mp H
    obtain ⟨t520, A80, H⟩ := H
    replace H : ((impl_inputs.f k l1).bind fun t523 => (impl_AlwaysSame.j0 k l0 l1 ((t520.length : Int) != (t523.length : Int)))) = some (r1, r2) := H
    have A8 := am_ A80
    clear A80
    replace H := Option.bind_eq_some_iff.mp H
    obtain ⟨t523, A90, H⟩ := H
    replace H : (impl_AlwaysSame.j0 k l0 l1 ((t520.length : Int) != (t523.length : Int))) = some (r1, r2) := H
    have A9 := am_ A90
    clear A90
    have H' := am_ H
    clear H
    go_wp2_with (first | ((with_reducible refine gl_ 34 rfl ?_); refine goesM_ (some 10) Try.func34 #[.slice A0 l0.length c0] ?_; (with_reducible refine (impl_GoodGates.calls k _ _ l0 true _ ?side1 ?side2 A4.out).mono ?_); (case side1 => exact cm_ (Kd.C_below HR0.out HB.out)); (case side2 => exact HC0.out); rintro e w10 ⟨rfl, hb⟩; refine ⟨_, rfl, ?_⟩; replace HB := bs_ hb; (try clear hb)) | (go_at_call 34; (with_reducible refine (impl_GoodGates.calls k _ _ l1 true _ ?side1 ?side2 A6.out).mono ?_); (case side1 => exact cm_ (Kd.C_below HR1.out HB.out)); (case side2 => exact HC1.out); rintro e w11 ⟨rfl, hb⟩; replace HB := bs_ hb; (try clear hb)) | (go_at_call 54; (with_reducible refine (impl_inputs.calls k _ _ l0 t520 _ ?side1 ?side2 A8.out).mono ?_); (case side1 => exact cm_ (Kd.C_below HR0.out HB.out)); (case side2 => exact HC0.out); rintro e w12 ⟨v521, rfl, ho0, hb⟩; have HO522 := am_ (Kd.R_lower ho0 (below_size (bq_))); replace HB := bs_ hb; (try clear hb); (try clear ho0); obtain ⟨Ao13, co13, eo13⟩ := Kd.R_slice HO522.out; subst eo13) | (go_at_call 54; (with_reducible refine (impl_inputs.calls k _ _ l1 t523 _ ?side1 ?side2 A9.out).mono ?_); (case side1 => exact cm_ (Kd.C_below HR1.out HB.out)); (case side2 => exact HC1.out); rintro e w14 ⟨v524, rfl, ho0, hb⟩; have HO525 := am_ (Kd.R_lower (Kd.R_new' ho0 (Kd.R_lt (rq_ HO522.out))) (below_size (bq_))); replace HO522 := am_ (Kd.R_elder' (rq_ HO522.out) (Kd.R_base ho0) hb); replace HB := bs_ hb; (try clear hb); (try clear ho0); obtain ⟨Ao15, co15, eo15⟩ := Kd.R_slice HO525.out; subst eo15))
    go_meet
    case rel => exact ⟨_, (((t520.length : Int) != (t523.length : Int))), y53_, H', ⟨by first | omega | exact Nat.le_refl _⟩, ⟨bq_⟩⟩
   ·replace c7 := Bool.eq_false_iff.mpr c7
    subst c7
    have H1 : (impl_AlwaysSame.j0 k l0 l1 true) = some (r1, r2) := by rw [if_neg (show ¬ (false = true) by decide)] at H; exact H
    clear H
    have H := H1
    clear H1
    have H' := am_ H
    clear H
    go_wp2_with (first | ((with_reducible refine gl_ 34 rfl ?_); refine goesM_ (some 10) Try.func34 #[.slice A0 l0.length c0] ?_; (with_reducible refine (impl_GoodGates.calls k _ _ l0 true _ ?side1 ?side2 A4.out).mono ?_); (case side1 => exact cm_ (Kd.C_below HR0.out HB.out)); (case side2 => exact HC0.out); rintro e w16 ⟨rfl, hb⟩; refine ⟨_, rfl, ?_⟩; replace HB := bs_ hb; (try clear hb)) | (go_at_call 34; (with_reducible refine (impl_GoodGates.calls k _ _ l1 false _ ?side1 ?side2 A6.out).mono ?_); (case side1 => exact cm_ (Kd.C_below HR1.out HB.out)); (case side2 => exact HC1.out); rintro e w17 ⟨rfl, hb⟩; replace HB := bs_ hb; (try clear hb)))
    go_meet
    case rel => exact ⟨_, (true), y53_, H', ⟨by first | omega | exact Nat.le_refl _⟩, ⟨bq_⟩⟩
  ·replace c5 := Bool.eq_false_iff.mpr c5
   subst c5
   have H1 : (impl_AlwaysSame.j0 k l0 l1 true) = some (r1, r2) := by rw [if_neg (show ¬ (false = true) by decide)] at H; exact H
   clear H
   have H := H1
   clear H1
   have H' := am_ H
   clear H
   go_wp2_with (first | ((with_reducible refine gl_ 34 rfl ?_); refine goesM_ (some 10) Try.func34 #[.slice A0 l0.length c0] ?_; (with_reducible refine (impl_GoodGates.calls k _ _ l0 false _ ?side1 ?side2 A4.out).mono ?_); (case side1 => exact cm_ (Kd.C_below HR0.out HB.out)); (case side2 => exact HC0.out); rintro e w18 ⟨rfl, hb⟩; refine ⟨_, rfl, ?_⟩; replace HB := bs_ hb; (try clear hb)))
   go_meet
   case rel => exact ⟨_, (true), y53_, H', ⟨by first | omega | exact Nat.le_refl _⟩, ⟨bq_⟩⟩
 case rest =>
  clear HC3
  try clear c1
  try clear p2
  try clear c3
  try clear c5
  try clear c7
  obtain ⟨kq, x25_2, rfl, HA, HJ2, HB⟩ := hcut
  cases kq with
  | zero => exact absurd HA.out (by simp [impl_AlwaysSame.j0])
  | succ kj2 =>
   have H := HA.out
   clear HA
   simp only [impl_AlwaysSame.j0] at H
   by_cases c19 : x25_2 = true
   ·subst c19
    have H1 : (some (false, false)) = some (r1, r2) := by rw [if_pos rfl] at H; exact H
    clear H
    have H := H1
    clear H1
    simp only [Option.some.injEq, Prod.mk.injEq] at H
    obtain ⟨rfl, rfl⟩ := H
    go_wp2
    go_ret2
    exact ⟨by first | rfl | (simp [errW_none, errW_some] <;> rfl) | (simp [*, errW_none, errW_some] <;> rfl), bq_⟩
   ·replace c19 := Bool.eq_false_iff.mpr c19
    subst c19
    have H1 : ((impl_inputs.f kj2 l0).bind fun t526 => (impl_AlwaysSame.l0 kj2 l0 l1 (t526.length : Int) (shl .i64 1 (t526.length : Int)) 0)) = some (r1, r2) := by rw [if_neg (show ¬ (false = true) by decide)] at H; exact H
    clear H
    have H := H1
    clear H1
    replace H := Option.bind_eq_some_iff.mp H
    obtain ⟨t526, A200, H⟩ := H
    replace H : (impl_AlwaysSame.l0 kj2 l0 l1 (t526.length : Int) (shl .i64 1 (t526.length : Int)) 0) = some (r1, r2) := H
    have A20 := am_ A200
    clear A200
    obtain ⟨ji21, hji21⟩ : ∃ j_ : Int, (shl .i64 1 (t526.length : Int)) = j_ := ⟨_, rfl⟩
    replace H : (impl_AlwaysSame.l0 kj2 l0 l1 (t526.length : Int) ji21 0) = some (r1, r2) := by first | (rw [hji21] at H; exact H) | (simp only [hji21] at H ⊢; exact H)
    (try rw [hji21] at A20)
    have hji21_ : (IntKind.i64.wrap (1 * 2 ^ min (t526.length : Int).toNat 64)) = ji21 := hji21
    have hji21z : (t526.length : Int) ≤ 64 → (IntKind.i64.wrap (1 * 2 ^ (t526.length : Int).toNat)) = ji21 := shl_small hji21
    have hji21p : (IntKind.i64.wrap (1 * 2 ^ min t526.length 64)) = ji21 := hji21_
    have hji21q : (t526.length : Int) ≤ 64 → (IntKind.i64.wrap (1 * 2 ^ t526.length)) = ji21 := hji21z
    have hji21r : (IntKind.i64.wrap (2 ^ min t526.length 64)) = ji21 := by have h_ := hji21p; rw [Int.one_mul] at h_; exact h_
    have hji21s : (t526.length : Int) ≤ 64 → (IntKind.i64.wrap (2 ^ t526.length)) = ji21 := fun hle_ => by have h_ := hji21q hle_; rw [Int.one_mul] at h_; exact h_
    have hji21u : (IntKind.i64.wrap (2 ^ min (t526.length : Int).toNat 64)) = ji21 := by have h_ := hji21_; rw [Int.one_mul] at h_; exact h_
    have hji21v : (t526.length : Int) ≤ 64 → (IntKind.i64.wrap (2 ^ (t526.length : Int).toNat)) = ji21 := fun hle_ => by have h_ := hji21z hle_; rw [Int.one_mul] at h_; exact h_
    have hji21y : (wrap64 (1 * 2 ^ min (t526.length : Int).toNat 64)) = ji21 := (i64_w _).symm.trans hji21_
    have hji21x : (t526.length : Int) ≤ 64 → (wrap64 (1 * 2 ^ (t526.length : Int).toNat)) = ji21 := fun h_ => (i64_w _).symm.trans (hji21z h_)
    have H' := am_ H
    clear H
    go_wp2_with (first | ((with_reducible refine gl_ 54 rfl ?_); refine goesM_ (some 27) Try.func54 #[.slice A0 l0.length c0] ?_; (with_reducible refine (impl_inputs.calls kj2 _ _ l0 t526 _ ?side1 ?side2 A20.out).mono ?_); (case side1 => exact cm_ (Kd.C_below HR0.out HB.out)); (case side2 => exact HC0.out); rintro e w22 ⟨v527, rfl, ho0, hb⟩; refine ⟨_, rfl, ?_⟩; have HO528 := am_ (Kd.R_lower ho0 (below_size (bq_))); replace HB := bs_ hb; (try clear hb); (try clear ho0); obtain ⟨Ao23, co23, eo23⟩ := Kd.R_slice HO528.out; subst eo23))
    go_loopg [31] kj2 (fun kq v31 w' => ∃ (x31_2 : Int), v31 = .int .i64 x31_2 ∧ Aside0 (impl_AlwaysSame.l0 kq l0 l1 (t526.length : Int) ji21 x31_2 = some (r1, r2)) ∧ Aside0 (kq ≤ kj2) ∧ Aside0 (Below w.heap.size w w'))
    case atStart => exact ⟨(0), y53_, H', ⟨Nat.le_refl _⟩, ⟨bq_⟩⟩
    case round =>
     clear H'
     try clear c1
     try clear p2
     try clear c3
     try clear c5
     try clear p6
     try clear c7
     try clear c19
     try clear p2
     obtain ⟨x31_2, rfl, HA, HK2, HB⟩ := hrel
     cases gk with
     | zero => exact absurd HA.out (by simp [impl_AlwaysSame.l0])
     | succ k2 =>
      have H := HA.out
      clear HA
      simp only [impl_AlwaysSame.l0] at H
      by_cases c24 : x31_2 < ji21
      ·rw [if_pos c24] at H
       have c24b0 : decide (x31_2 < ji21) = true := decide_eq_true c24
       clear c24
       replace H := Option.bind_eq_some_iff.mp H
       obtain ⟨t529, A250, H⟩ := H
       replace H : ((impl_output.f k2 l0 t529).bind fun t532 => ((impl_output.f k2 l1 t529).bind fun t533 => (if (t532 != t533) = true then (some (false, true)) else (impl_AlwaysSame.l0 k2 l0 l1 (t526.length : Int) ji21 (wrap64 (x31_2 + 1)))))) = some (r1, r2) := H
       have A25 := am_ A250
       clear A250
       replace H := Option.bind_eq_some_iff.mp H
       obtain ⟨t532, A260, H⟩ := H
       replace H : ((impl_output.f k2 l1 t529).bind fun t533 => (if (t532 != t533) = true then (some (false, true)) else (impl_AlwaysSame.l0 k2 l0 l1 (t526.length : Int) ji21 (wrap64 (x31_2 + 1))))) = some (r1, r2) := H
       have A26 := am_ A260
       clear A260
       replace H := Option.bind_eq_some_iff.mp H
       obtain ⟨t533, A270, H⟩ := H
       replace H : (if (t532 != t533) = true then (some (false, true)) else (impl_AlwaysSame.l0 k2 l0 l1 (t526.length : Int) ji21 (wrap64 (x31_2 + 1)))) = some (r1, r2) := H
       have A27 := am_ A270
       clear A270
       by_cases c28 : (t532 != t533) = true
       ·rw [if_pos c28] at H
        have c28b0 : (t532 != t533) = true := c28
        (try (have c28b1 : decide (t532 = t533) = false := by simpa using c28))
        (try (have c28b2 : (t532 == t533) = false := by simpa using c28))
        (try (have c28b3 : ¬ (t532 = t533) := by simpa using c28))
        clear c28
        simp only [Option.some.injEq, Prod.mk.injEq] at H
        obtain ⟨rfl, rfl⟩ := H
        go_wp2_with (first | ((with_reducible refine gl_ 61 rfl ?_); refine goesM_ (some 36) Try.func61 #[.int .i64 (t526.length : Int), .int .i64 x31_2] ?_; (with_reducible refine (impl_model.calls k2 (t526.length : Int) x31_2 t529 _ A25.out).mono ?_); rintro e w29 ⟨v530, rfl, ho0, hb⟩; refine ⟨_, rfl, ?_⟩; have HO531 := am_ (Kd.R_lower ho0 (below_size (bq_))); replace HB := bs_ hb; (try clear hb); (try clear ho0); obtain ⟨Ao30, co30, eo30⟩ := Kd.R_slice HO531.out; subst eo30) | ((with_reducible refine gl_ 62 rfl ?_); refine goesM_ (some 39) Try.func62 #[.slice A0 l0.length c0, .slice Ao30 t529.length co30] ?_; (with_reducible refine (impl_output.calls k2 _ _ l0 _ _ t529 t532 _ ?side1 ?side2 ?side3 ?side4 A26.out).mono ?_); (case side1 => exact cm_ (Kd.C_below HR0.out HB.out)); (case side2 => exact HC0.out); (case side3 => exact cm_ (Kd.R_reads' HO531.out).2.2); (case side4 => exact (Kd.R_reads' HO531.out).2.1); rintro e w31 ⟨rfl, hb⟩; refine ⟨_, rfl, ?_⟩; replace HO531 := am_ (Kd.R_below (rq_ HO531.out) hb); replace HB := bs_ hb; (try clear hb)) | ((with_reducible refine gl_ 62 rfl ?_); refine goesM_ (some 42) Try.func62 #[.slice A1 l1.length c1, .slice Ao30 t529.length co30] ?_; (with_reducible refine (impl_output.calls k2 _ _ l1 _ _ t529 t533 _ ?side1 ?side2 ?side3 ?side4 A27.out).mono ?_); (case side1 => exact cm_ (Kd.C_below HR1.out HB.out)); (case side2 => exact HC1.out); (case side3 => exact cm_ (Kd.R_reads' HO531.out).2.2); (case side4 => exact (Kd.R_reads' HO531.out).2.1); rintro e w32 ⟨rfl, hb⟩; refine ⟨_, rfl, ?_⟩; replace HO531 := am_ (Kd.R_below (rq_ HO531.out) hb); replace HB := bs_ hb; (try clear hb)))
        go_ret2
        exact ⟨by first | rfl | (simp [errW_none, errW_some] <;> rfl) | (simp only [← hji21]; first | rfl | (simp [errW_none, errW_some] <;> rfl)) | (simp [*, errW_none, errW_some] <;> rfl), bq_⟩
       ·rw [if_neg c28] at H
        have c28b0 : (t532 != t533) = false := by simpa using c28
        (try (have c28b1 : decide (t532 = t533) = true := by simpa using c28))
        (try (have c28b2 : (t532 == t533) = true := by simpa using c28))
        clear c28
        have H' := am_ H
        clear H
        go_wp2_with (first | ((with_reducible refine gl_ 61 rfl ?_); refine goesM_ (some 36) Try.func61 #[.int .i64 (t526.length : Int), .int .i64 x31_2] ?_; (with_reducible refine (impl_model.calls k2 (t526.length : Int) x31_2 t529 _ A25.out).mono ?_); rintro e w33 ⟨v530, rfl, ho0, hb⟩; refine ⟨_, rfl, ?_⟩; have HO531 := am_ (Kd.R_lower ho0 (below_size (bq_))); replace HB := bs_ hb; (try clear hb); (try clear ho0); obtain ⟨Ao34, co34, eo34⟩ := Kd.R_slice HO531.out; subst eo34) | ((with_reducible refine gl_ 62 rfl ?_); refine goesM_ (some 39) Try.func62 #[.slice A0 l0.length c0, .slice Ao34 t529.length co34] ?_; (with_reducible refine (impl_output.calls k2 _ _ l0 _ _ t529 t532 _ ?side1 ?side2 ?side3 ?side4 A26.out).mono ?_); (case side1 => exact cm_ (Kd.C_below HR0.out HB.out)); (case side2 => exact HC0.out); (case side3 => exact cm_ (Kd.R_reads' HO531.out).2.2); (case side4 => exact (Kd.R_reads' HO531.out).2.1); rintro e w35 ⟨rfl, hb⟩; refine ⟨_, rfl, ?_⟩; replace HO531 := am_ (Kd.R_below (rq_ HO531.out) hb); replace HB := bs_ hb; (try clear hb)) | ((with_reducible refine gl_ 62 rfl ?_); refine goesM_ (some 42) Try.func62 #[.slice A1 l1.length c1, .slice Ao34 t529.length co34] ?_; (with_reducible refine (impl_output.calls k2 _ _ l1 _ _ t529 t533 _ ?side1 ?side2 ?side3 ?side4 A27.out).mono ?_); (case side1 => exact cm_ (Kd.C_below HR1.out HB.out)); (case side2 => exact HC1.out); (case side3 => exact cm_ (Kd.R_reads' HO531.out).2.2); (case side4 => exact (Kd.R_reads' HO531.out).2.1); rintro e w36 ⟨rfl, hb⟩; refine ⟨_, rfl, ?_⟩; replace HO531 := am_ (Kd.R_below (rq_ HO531.out) hb); replace HB := bs_ hb; (try clear hb)))
        go_roundg k2
        case measure => have := HJ2.out; have := HK2.out; omega
        case rel => exact ⟨(wrap64 (x31_2 + 1)), y53_, H', ⟨by have := HJ2.out; have := HK2.out; omega⟩, ⟨bq_⟩⟩
      ·rw [if_neg c24] at H
       have c24b0 : decide (x31_2 < ji21) = false := decide_eq_false c24
       clear c24
       simp only [Option.some.injEq, Prod.mk.injEq] at H
       obtain ⟨rfl, rfl⟩ := H
       go_wp2
       go_ret2
       exact ⟨by first | rfl | (simp [errW_none, errW_some] <;> rfl) | (simp only [← hji21]; first | rfl | (simp [errW_none, errW_some] <;> rfl)) | (simp [*, errW_none, errW_some] <;> rfl), bq_⟩
end Go.Proofs.Ytgahidilhjijiaa.PGT
