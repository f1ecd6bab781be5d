import Derived.Test.YtpndhlcbfobelaaPDXx0
import Derived.Test.YtpndhlcbfobelaaPDXx5
import Derived.Test.YtpndhlcbfobelaaPDXx7
import Derived.Test.YtpndhlcbfobelaaPDXx11
import Derived.Test.YtpndhlcbfobelaaPDXx12
import Derived.Test.YtpndhlcbfobelaaPDXx13
namespace Go.Proofs.Ytpndhlcbfobelaa.PDX
open Go.RowKit Go.Proofs.YtpndhlcbfobelaaW.PrintWords Go.Proofs.YtpndhlcbfobelaaW.PrintLast Go.Proofs.YtpndhlcbfobelaaW.PrintMore
attribute [local go_sem] max2_int min2_int max_two min_two max_three min_three max_four min_four   -- for this text's walks alone
set_option linter.unusedVariables false
set_option linter.unusedSimpArgs false
def impl_countModels.l0 : Nat → Int → List (List Int) → Int → Int → Int → Option (Int)
 | 0, _, _, _, _, _ => none
 | k + 1, x0, x1, x5, x8, x9 => if x9 < x8 then ((impl_model.f k x0 x9).bind fun t351 => ((impl_holds.f k x1 t351).bind fun t354 => (if t354 = true then (impl_countModels.l0 k x0 x1 (wrap64 (x5 + 1)) x8 (wrap64 (x9 + 1))) else (impl_countModels.l0 k x0 x1 x5 x8 (wrap64 (x9 + 1)))))) else (some x5)
def impl_countModels.f (k : Nat) (a0 : Int) (l1 : List (List Int)) : Option (Int) := if 0 ≤ a0 then (impl_countModels.l0 k a0 l1 0 (shl .i64 1 a0) 0) else (none)
set_option maxHeartbeats 8000000 in
set_option maxRecDepth 100000 in
theorem impl_countModels.calls (k : Nat) (a0 : Int) (A1 : Option Addr) (c1 : Nat) (l1 : List (List Int)) (r : Int) (w : World) (hr1 : Kd.C (Kd.slice 3 (Kd.int .i64)) w A1 l1.length l1) (hc1 : l1.length ≤ c1) (h : impl_countModels.f k a0 l1 = some r) :
  Calls Try.prog 89 #[.int .i64 a0, .slice A1 l1.length c1] w fun e w' => e = .returned (.int .i64 r) ∧ Below w.heap.size w w' := by
 have HR1 := am_ hr1
 have HC1 := am_ hc1
 clear hr1 hc1
 have HB := am_ (Below.refl w.heap.size w)
 have H : (if 0 ≤ a0 then (impl_countModels.l0 k a0 l1 0 (shl .i64 1 a0) 0) else (none)) = some r := h
 clear h
 by_cases c3 : 0 ≤ a0
 ·rw [if_pos c3] at H
  have c3b0 := eq_true c3
  have c3b1 : decide (0 ≤ a0) = true := decide_eq_true c3
  clear c3
  obtain ⟨ji4, hji4⟩ : ∃ j_ : Int, (shl .i64 1 a0) = j_ := ⟨_, rfl⟩
  replace H : (impl_countModels.l0 k a0 l1 0 ji4 0) = some r := by first | (rw [hji4] at H; exact H) | (simp only [hji4] at H ⊢; exact H)
  have hji4_ : (IntKind.i64.wrap (1 * 2 ^ min a0.toNat 64)) = ji4 := hji4
  have hji4z : a0 ≤ 64 → (IntKind.i64.wrap (1 * 2 ^ a0.toNat)) = ji4 := shl_small hji4
  have hji4u : (IntKind.i64.wrap (2 ^ min a0.toNat 64)) = ji4 := by have h_ := hji4_; rw [Int.one_mul] at h_; exact h_
  have hji4v : a0 ≤ 64 → (IntKind.i64.wrap (2 ^ a0.toNat)) = ji4 := fun hle_ => by have h_ := hji4z hle_; rw [Int.one_mul] at h_; exact h_
  have hji4y : (wrap64 (1 * 2 ^ min a0.toNat 64)) = ji4 := (i64_w _).symm.trans hji4_
  have hji4x : a0 ≤ 64 → (wrap64 (1 * 2 ^ a0.toNat)) = ji4 := fun h_ => (i64_w _).symm.trans (hji4z h_)
  have H' := am_ H
  clear H
  go_enter Try.func89, Try.ntmps89
  go_wp2
  go_loopg [5, 9] k (fun kq v5 v9 w' => ∃ (x5_1 : Int) (x9_1 : Int), v5 = .int .i64 x5_1 ∧ v9 = .int .i64 x9_1 ∧ Aside0 (impl_countModels.l0 kq a0 l1 x5_1 ji4 x9_1 = some r) ∧ Aside0 (kq ≤ k) ∧ Aside0 (Below w.heap.size w w'))
  case atStart => exact ⟨(0), (0), y30_, y30_, H', ⟨Nat.le_refl _⟩, ⟨bq_⟩⟩
  case round =>
   clear H'
   try clear c1
   try clear p2
   try clear c3
   try clear c3b0
   try clear c3b1
   obtain ⟨x5_1, x9_1, rfl, rfl, HA, HK1, HB⟩ := hrel
   cases gk with
   | zero => exact absurd HA.out (by simp [impl_countModels.l0])
   | succ k1 =>
    have H := HA.out
    clear HA
    simp only [impl_countModels.l0] at H
    by_cases c5 : x9_1 < ji4
    ·rw [if_pos c5] at H
     have c5b0 : decide (x9_1 < ji4) = true := decide_eq_true c5
     clear c5
     replace H := Option.bind_eq_some_iff.mp H
     obtain ⟨t351, A60, H⟩ := H
     replace H : ((impl_holds.f k1 l1 t351).bind fun t354 => (if t354 = true then (impl_countModels.l0 k1 a0 l1 (wrap64 (x5_1 + 1)) ji4 (wrap64 (x9_1 + 1))) else (impl_countModels.l0 k1 a0 l1 x5_1 ji4 (wrap64 (x9_1 + 1))))) = some r := H
     have A6 := am_ A60
     clear A60
     replace H := Option.bind_eq_some_iff.mp H
     obtain ⟨t354, A70, H⟩ := H
     replace H : (if t354 = true then (impl_countModels.l0 k1 a0 l1 (wrap64 (x5_1 + 1)) ji4 (wrap64 (x9_1 + 1))) else (impl_countModels.l0 k1 a0 l1 x5_1 ji4 (wrap64 (x9_1 + 1)))) = some r := H
     have A7 := am_ A70
     clear A70
     by_cases c8 : t354 = true
     ·subst c8
      have H1 : (impl_countModels.l0 k1 a0 l1 (wrap64 (x5_1 + 1)) ji4 (wrap64 (x9_1 + 1))) = some r := by rw [if_pos rfl] at H; exact H
      clear H
      have H := H1
      clear H1
      have H' := am_ H
      clear H
      go_wp2_with (first | ((with_reducible refine gl_ 78 rfl ?_); refine goesM_ (some 15) Try.func78 #[.int .i64 a0, .int .i64 x9_1] ?_; (with_reducible refine (impl_model.calls k1 a0 x9_1 t351 _ A6.out).mono ?_); rintro e w9 ⟨v352, rfl, ho0, hb⟩; refine ⟨_, rfl, ?_⟩; have HO353 := am_ (Kd.R_lower ho0 (below_size (bq_))); replace HB := bs_ hb; (try clear hb); (try clear ho0); obtain ⟨Ao10, co10, eo10⟩ := Kd.R_slice HO353.out; subst eo10) | ((with_reducible refine gl_ 77 rfl ?_); refine goesM_ (some 16) Try.func77 #[.slice A1 l1.length c1, .slice Ao10 t351.length co10] ?_; (with_reducible refine (impl_holds.calls k1 _ _ l1 _ _ t351 true _ ?side1 ?side2 ?side3 ?side4 A7.out).mono ?_); (case side1 => exact cm_ (Kd.C_below HR1.out HB.out)); (case side2 => exact HC1.out); (case side3 => exact cm_ (Kd.R_reads' HO353.out).2.2); (case side4 => exact (Kd.R_reads' HO353.out).2.1); rintro e w11 ⟨rfl, hb⟩; refine ⟨_, rfl, ?_⟩; replace HO353 := am_ (Kd.R_below (rq_ HO353.out) hb); replace HB := bs_ hb; (try clear hb)))
      go_roundg k1
      case measure => have := HK1.out; omega
      case rel => exact ⟨(wrap64 (x5_1 + 1)), (wrap64 (x9_1 + 1)), y30_, y30_, H', ⟨by have := HK1.out; omega⟩, ⟨bq_⟩⟩
     ·replace c8 := Bool.eq_false_iff.mpr c8
      subst c8
      have H1 : (impl_countModels.l0 k1 a0 l1 x5_1 ji4 (wrap64 (x9_1 + 1))) = some r := by rw [if_neg (show ¬ (false = true) by decide)] at H; exact H
      clear H
      have H := H1
      clear H1
      have H' := am_ H
      clear H
      go_wp2_with (first | ((with_reducible refine gl_ 78 rfl ?_); refine goesM_ (some 15) Try.func78 #[.int .i64 a0, .int .i64 x9_1] ?_; (with_reducible refine (impl_model.calls k1 a0 x9_1 t351 _ A6.out).mono ?_); rintro e w12 ⟨v352, rfl, ho0, hb⟩; refine ⟨_, rfl, ?_⟩; have HO353 := am_ (Kd.R_lower ho0 (below_size (bq_))); replace HB := bs_ hb; (try clear hb); (try clear ho0); obtain ⟨Ao13, co13, eo13⟩ := Kd.R_slice HO353.out; subst eo13) | ((with_reducible refine gl_ 77 rfl ?_); refine goesM_ (some 16) Try.func77 #[.slice A1 l1.length c1, .slice Ao13 t351.length co13] ?_; (with_reducible refine (impl_holds.calls k1 _ _ l1 _ _ t351 false _ ?side1 ?side2 ?side3 ?side4 A7.out).mono ?_); (case side1 => exact cm_ (Kd.C_below HR1.out HB.out)); (case side2 => exact HC1.out); (case side3 => exact cm_ (Kd.R_reads' HO353.out).2.2); (case side4 => exact (Kd.R_reads' HO353.out).2.1); rintro e w14 ⟨rfl, hb⟩; refine ⟨_, rfl, ?_⟩; replace HO353 := am_ (Kd.R_below (rq_ HO353.out) hb); replace HB := bs_ hb; (try clear hb)))
      go_roundg k1
      case measure => have := HK1.out; omega
      case rel => exact ⟨(x5_1), (wrap64 (x9_1 + 1)), y30_, y30_, H', ⟨by have := HK1.out; omega⟩, ⟨bq_⟩⟩
    ·rw [if_neg c5] at H
     have c5b0 : decide (x9_1 < ji4) = false := decide_eq_false c5
     clear c5
     obtain rfl := Option.some.inj H
     go_wp2
     go_ret
     exact ⟨by first | rfl | (simp [errW_none, errW_some] <;> rfl) | (simp only [← hji4]; first | rfl | (simp [errW_none, errW_some] <;> rfl)) | (simp [*, errW_none, errW_some] <;> rfl), bq_⟩
 ·rw [if_neg c3] at H
  exact absurd H (by simp)
def impl_CountModels.f (k : Nat) (a0 : Int) (l1 : List (List Int)) : Option (Int × Bool) := (impl_GoodClauses.f k a0 l1).bind fun t355 => (if t355 = true then ((impl_countModels.f k a0 l1).bind fun t356 => (some (t356, true))) else (some (0, false)))
set_option maxHeartbeats 8000000 in
set_option maxRecDepth 100000 in
theorem impl_CountModels.calls (k : Nat) (a0 : Int) (A1 : Option Addr) (c1 : Nat) (l1 : List (List Int)) (r1 : Int) (r2 : Bool) (w : World) (hr1 : Kd.C (Kd.slice 3 (Kd.int .i64)) w A1 l1.length l1) (hc1 : l1.length ≤ c1) (h : impl_CountModels.f k a0 l1 = some (r1, r2)) :
  Calls Try.prog 50 #[.int .i64 a0, .slice A1 l1.length c1] w fun e w' => e = .returned (.tuple #[.int .i64 r1, .bool r2]) ∧ Below w.heap.size w w' := by
 have HR1 := am_ hr1
 have HC1 := am_ hc1
 clear hr1 hc1
 have HB := am_ (Below.refl w.heap.size w)
 have H : ((impl_GoodClauses.f k a0 l1).bind fun t355 => (if t355 = true then ((impl_countModels.f k a0 l1).bind fun t356 => (some (t356, true))) else (some (0, false)))) = some (r1, r2) := h
 clear h
 replace H := Option.bind_eq_some_iff.mp H
 obtain ⟨t355, A30, H⟩ := H
 replace H : (if t355 = true then ((impl_countModels.f k a0 l1).bind fun t356 => (some (t356, true))) else (some (0, false))) = some (r1, r2) := H
 have A3 := am_ A30
 clear A30
 by_cases c4 : t355 = true
 ·subst c4
  have H1 : ((impl_countModels.f k a0 l1).bind fun t356 => (some (t356, true))) = some (r1, r2) := by rw [if_pos rfl] at H; exact H
  clear H
  have H := H1
  clear H1
  replace H := Option.bind_eq_some_iff.mp H
  obtain ⟨t356, A50, H⟩ := H
  replace H : (some (t356, true)) = some (r1, r2) := H
  have A5 := am_ A50
  clear A50
  simp only [Option.some.injEq, Prod.mk.injEq] at H
  obtain ⟨rfl, rfl⟩ := H
  go_enter Try.func50, Try.ntmps50
  go_wp2_with (first | ((with_reducible refine gl_ 75 rfl ?_); refine goesM_ (some 8) Try.func75 #[.int .i64 a0, .slice A1 l1.length c1] ?_; (with_reducible refine (impl_GoodClauses.calls k a0 _ _ l1 true _ ?side1 ?side2 A3.out).mono ?_); (case side1 => exact cm_ HR1.out); (case side2 => exact HC1.out); rintro e w6 ⟨rfl, hb⟩; refine ⟨_, rfl, ?_⟩; replace HB := bs_ hb; (try clear hb)) | ((with_reducible refine gl_ 89 rfl ?_); refine goesM_ (some 12) Try.func89 #[.int .i64 a0, .slice A1 l1.length c1] ?_; (with_reducible refine (impl_countModels.calls k a0 _ _ l1 t356 _ ?side1 ?side2 A5.out).mono ?_); (case side1 => exact cm_ (Kd.C_below HR1.out HB.out)); (case side2 => exact HC1.out); rintro e w7 ⟨rfl, hb⟩; refine ⟨_, rfl, ?_⟩; replace HB := bs_ hb; (try clear hb)))
  go_ret2
  exact ⟨by first | rfl | (simp [errW_none, errW_some] <;> rfl) | (simp [*, errW_none, errW_some] <;> rfl), bq_⟩
 ·replace c4 := Bool.eq_false_iff.mpr c4
  subst c4
  have H1 : (some (0, false)) = some (r1, r2) := by rw [if_neg (show ¬ (false = true) by decide)] at H; exact H
  clear H
  have H := H1
  clear H1
  simp only [Option.some.injEq, Prod.mk.injEq] at H
  obtain ⟨rfl, rfl⟩ := H
  go_enter Try.func50, Try.ntmps50
  go_wp2_with (first | ((with_reducible refine gl_ 75 rfl ?_); refine goesM_ (some 8) Try.func75 #[.int .i64 a0, .slice A1 l1.length c1] ?_; (with_reducible refine (impl_GoodClauses.calls k a0 _ _ l1 false _ ?side1 ?side2 A3.out).mono ?_); (case side1 => exact cm_ HR1.out); (case side2 => exact HC1.out); rintro e w8 ⟨rfl, hb⟩; refine ⟨_, rfl, ?_⟩; replace HB := bs_ hb; (try clear hb)))
  go_ret2
  exact ⟨by first | rfl | (simp [errW_none, errW_some] <;> rfl) | (simp [*, errW_none, errW_some] <;> rfl), bq_⟩
def laws_numberOf.l0 : Nat → Int → List Int → Int → Int → Option (Int)
 | 0, _, _, _, _ => none
 | k + 1, x3, x6, x7, x8 => if x8 < x7 then (if 0 ≤ x8 then (if x8 < (x6.length : Int) then (laws_numberOf.l0 k (Int.tmod (wrap64 ((wrap64 (31 * x3)) + (wrap64 (rd x6 x8)))) 1000003) x6 x7 (wrap64 (x8 + 1))) else (none)) else (none)) else (some x3)
def laws_numberOf.f (k : Nat) (l0 : List Int) : Option (Int) := laws_numberOf.l0 k 0 l0 (l0.length : Int) 0
set_option maxHeartbeats 8000000 in
set_option maxRecDepth 100000 in
theorem laws_numberOf.calls (k : Nat) (A0 : Option Addr) (c0 : Nat) (l0 : List Int) (r : Int) (w : World) (hr0 : Kd.C (Kd.int .u8) w A0 l0.length l0) (hc0 : l0.length ≤ c0) (h : laws_numberOf.f k l0 = some r) :
  Calls Try.prog 51 #[.slice A0 l0.length c0] w fun e w' => e = .returned (.int .i64 r) ∧ Drawn0 w w' := by
 have HR0 := am_ hr0
 have HC0 := am_ hc0
 clear hr0 hc0
 have H : (laws_numberOf.l0 k 0 l0 (l0.length : Int) 0) = some r := h
 clear h
 have H' := am_ H
 clear H
 go_enter Try.func51, Try.ntmps51
 go_wp2
 go_loopg [3, 8] k (fun kq v3 v8 w' => ∃ (x3_1 : Int) (x8_1 : Int), v3 = .int .i64 x3_1 ∧ v8 = .int .i64 x8_1 ∧ Aside0 (laws_numberOf.l0 kq x3_1 l0 (l0.length : Int) x8_1 = some r) ∧ Aside0 (kq ≤ k) ∧ Drawn0 w w')
 case atStart => exact ⟨(0), (0), y30_, y30_, H', ⟨Nat.le_refl _⟩, by repeat (first | exact Drawn0.refl _ | apply Drawn0.step)⟩
 case round =>
  clear H'
  obtain ⟨x3_1, x8_1, rfl, rfl, HA, HK1, ⟨m1, rfl⟩⟩ := hrel
  cases gk with
  | zero => exact absurd HA.out (by simp [laws_numberOf.l0])
  | succ k1 =>
   have H := HA.out
   clear HA
   simp only [laws_numberOf.l0] at H
   by_cases c2 : x8_1 < (l0.length : Int)
   ·rw [if_pos c2] at H
    have c2b0 : decide (x8_1 < (l0.length : Int)) = true := decide_eq_true c2
    clear c2
    by_cases c3 : 0 ≤ x8_1
    ·rw [if_pos c3] at H
     have c3b0 : decide (0 ≤ x8_1) = true := decide_eq_true c3
     clear c3
     by_cases c4 : x8_1 < (l0.length : Int)
     ·rw [if_pos c4] at H
      have c4b0 : decide (x8_1 < (l0.length : Int)) = true := decide_eq_true c4
      clear c4
      have H' := am_ H
      clear H
      have p357 : 0 ≤ (x8_1 : Int) := od_
      have q357 : x8_1 < (l0.length : Int) := od_
      obtain ⟨ad357, e357, hx357_0⟩ := Kd.at_int HR0.out x8_1 p357 q357
      cases e357
      replace p357 := eq_true p357
      replace q357 := eq_true q357
      go_wp2
      go_roundg k1
      case measure => have := HK1.out; omega
      case rel => exact ⟨(Int.tmod (wrap64 ((wrap64 (31 * x3_1)) + (wrap64 (rd l0 x8_1)))) 1000003), (wrap64 (x8_1 + 1)), y30_, y30_, H', ⟨by have := HK1.out; omega⟩, by repeat (first | exact Drawn0.refl _ | apply Drawn0.step)⟩
     ·rw [if_neg c4] at H
      exact absurd H (by simp)
    ·rw [if_neg c3] at H
     exact absurd H (by simp)
   ·rw [if_neg c2] at H
    have c2b0 : decide (x8_1 < (l0.length : Int)) = false := decide_eq_false c2
    clear c2
    obtain rfl := Option.some.inj H
    go_wp2
    go_ret
    exact ⟨by first | rfl | (simp; done) | (simp [*]; done), by repeat (first | exact Drawn0.refl _ | apply Drawn0.step)⟩
def spec_DiagramOf.f (k : Nat) (a0 : Int) (l1 : List Bool) : Option (Int × (List (S75)) × Int × Bool) := (spec_l1In.f a0 0 6).bind fun t359 => (if t359 = true then (if 0 ≤ (IntKind.u64.wrap (a0)) then (if (l1.length : Int) = (shl .i64 1 (IntKind.u64.wrap (a0))) then ((spec_l7Of.f k a0 l1).bind fun bt360 => (some (bt360.1, bt360.2.1, bt360.2.2, true))) else (some (0, ([] : List (S75)), 0, false))) else (none)) else (some (0, ([] : List (S75)), 0, false)))
set_option maxHeartbeats 8000000 in
set_option maxRecDepth 100000 in
theorem spec_DiagramOf.calls (k : Nat) (a0 : Int) (A1 : Option Addr) (c1 : Nat) (l1 : List Bool) (r1 : Int) (r2 : List (S75)) (r3 : Int) (r4 : Bool) (w : World) (hr1 : Kd.C Kd.bool w A1 l1.length l1) (hc1 : l1.length ≤ c1) (h : spec_DiagramOf.f k a0 l1 = some (r1, r2, r3, r4)) :
  Calls Try.prog 41 #[.int .i64 a0, .slice A1 l1.length c1] w fun e w' => ∃ v1_ : Value, e = .returned (.tuple #[.agg #[.int .i64 r1, v1_, .int .i64 r3], .bool r4]) ∧ Kd.R k75 75 w' w.heap.size (fun _ => True) v1_ r2 ∧ Below w.heap.size w w' := by
 have hu30 := Try.underlying30
 have HR1 := am_ hr1
 have HC1 := am_ hc1
 clear hr1 hc1
 have HB := am_ (Below.refl w.heap.size w)
 have H : ((spec_l1In.f a0 0 6).bind fun t359 => (if t359 = true then (if 0 ≤ (IntKind.u64.wrap (a0)) then (if (l1.length : Int) = (shl .i64 1 (IntKind.u64.wrap (a0))) then ((spec_l7Of.f k a0 l1).bind fun bt360 => (some (bt360.1, bt360.2.1, bt360.2.2, true))) else (some (0, ([] : List (S75)), 0, false))) else (none)) else (some (0, ([] : List (S75)), 0, false)))) = some (r1, r2, r3, r4) := h
 clear h
 replace H := Option.bind_eq_some_iff.mp H
 obtain ⟨t359, A30, H⟩ := H
 replace H : (if t359 = true then (if 0 ≤ (IntKind.u64.wrap (a0)) then (if (l1.length : Int) = (shl .i64 1 (IntKind.u64.wrap (a0))) then ((spec_l7Of.f k a0 l1).bind fun bt360 => (some (bt360.1, bt360.2.1, bt360.2.2, true))) else (some (0, ([] : List (S75)), 0, false))) else (none)) else (some (0, ([] : List (S75)), 0, false))) = some (r1, r2, r3, r4) := H
 have A3 := am_ A30
 clear A30
 by_cases c4 : t359 = true
 ·subst c4
  have H1 : (if 0 ≤ (IntKind.u64.wrap (a0)) then (if (l1.length : Int) = (shl .i64 1 (IntKind.u64.wrap (a0))) then ((spec_l7Of.f k a0 l1).bind fun bt360 => (some (bt360.1, bt360.2.1, bt360.2.2, true))) else (some (0, ([] : List (S75)), 0, false))) else (none)) = some (r1, r2, r3, r4) := by rw [if_pos rfl] at H; exact H
  clear H
  have H := H1
  clear H1
  obtain ⟨ji5, hji5⟩ : ∃ j_ : Int, (IntKind.u64.wrap (a0)) = j_ := ⟨_, rfl⟩
  replace H : (if 0 ≤ (ji5) then (if (l1.length : Int) = (shl .i64 1 (ji5)) then ((spec_l7Of.f k a0 l1).bind fun bt360 => (some (bt360.1, bt360.2.1, bt360.2.2, true))) else (some (0, ([] : List (S75)), 0, false))) else (none)) = some (r1, r2, r3, r4) := by first | (rw [hji5] at H; exact H) | (simp only [hji5] at H ⊢; exact H)
  (try rw [hji5] at A3)
  by_cases c6 : 0 ≤ (ji5)
  ·rw [if_pos c6] at H
   have c6b0 := eq_true c6
   have c6b1 : decide (0 ≤ (ji5)) = true := decide_eq_true c6
   clear c6
   obtain ⟨ji7, hji7⟩ : ∃ j_ : Int, (shl .i64 1 (ji5)) = j_ := ⟨_, rfl⟩
   replace H : (if (l1.length : Int) = (ji7) then ((spec_l7Of.f k a0 l1).bind fun bt360 => (some (bt360.1, bt360.2.1, bt360.2.2, true))) else (some (0, ([] : List (S75)), 0, false))) = some (r1, r2, r3, r4) := by first | (rw [hji7] at H; exact H) | (simp only [hji7] at H ⊢; exact H)
   (try rw [hji7] at A3)
   have hji7_ : (IntKind.i64.wrap (1 * 2 ^ min (ji5).toNat 64)) = ji7 := hji7
   have hji7z : (ji5) ≤ 64 → (IntKind.i64.wrap (1 * 2 ^ (ji5).toNat)) = ji7 := shl_small hji7
   have hji7u : (IntKind.i64.wrap (2 ^ min (ji5).toNat 64)) = ji7 := by have h_ := hji7_; rw [Int.one_mul] at h_; exact h_
   have hji7v : (ji5) ≤ 64 → (IntKind.i64.wrap (2 ^ (ji5).toNat)) = ji7 := fun hle_ => by have h_ := hji7z hle_; rw [Int.one_mul] at h_; exact h_
   have hji7y : (wrap64 (1 * 2 ^ min (ji5).toNat 64)) = ji7 := (i64_w _).symm.trans hji7_
   have hji7x : (ji5) ≤ 64 → (wrap64 (1 * 2 ^ (ji5).toNat)) = ji7 := fun h_ => (i64_w _).symm.trans (hji7z h_)
   by_cases c8 : (l1.length : Int) = (ji7)
   ·rw [if_pos c8] at H
    have c8b0 : ((l1.length : Int) == (ji7)) = true := beq_iff_eq.mpr c8
    have c8b1 : ((l1.length : Int) != (ji7)) = false := bne_eq_false_iff_eq.mpr c8
    clear c8
    replace H := Option.bind_eq_some_iff.mp H
    obtain ⟨⟨t360, t361, t364⟩, A90, H⟩ := H
    replace H : (some (t360, t361, t364, true)) = some (r1, r2, r3, r4) := H
    have A9 := am_ A90
    clear A90
    simp only [Option.some.injEq, Prod.mk.injEq] at H
    obtain ⟨rfl, rfl, rfl, rfl⟩ := H
    go_enter Try.func41, Try.ntmps41
    go_wp2_with (first | ((with_reducible refine gate_dst (N := 4) rfl ?_); (try (refine gate_guard (by rfl) ?_; dsimp only)); refine boxq_ (N := 4) (cs := #[.int .i64 0, .slice none 0 0, .int .i64 0]) (t := 30) ?_; intro gb358 hg w10 hbox hb; have BK358 := am_ (hbox); have GW358 := gz_ hg; have GE358 := gz_ hg; replace HB := bs_ hb; clear hb hbox hg) | ((with_reducible refine gl_ 67 rfl ?_); refine goesM_ (some 7) Try.func67 #[.int .i64 a0, .int .i64 0, .int .i64 6] ?_; (with_reducible refine (spec_l1In.calls a0 0 6 true _ A3.out).mono ?_); rintro e w' ⟨rfl, ⟨nd, rfl⟩⟩; refine ⟨_, rfl, ?_⟩; (try (rw [drewN_self w10]; generalize hq_ : World.drewN w10 _ = w10; replace BK358 : Aside0 (w10.heap[gb358]? = some (.cells #[.int .i64 0, .slice none 0 0, .int .i64 0] 30 (0, 0))) := ⟨by rw [← hq_]; exact (bk_ BK358.out)⟩; replace HB : Aside0 (Below w.heap.size w w10) := ⟨by rw [← hq_]; exact (bq_)⟩; clear hq_))) | ((with_reducible refine gl_ 62 rfl ?_); refine goesM_ (some 20) Try.func62 #[.int .i64 a0, .slice A1 l1.length c1] ?_; (with_reducible refine (spec_l7Of.calls k a0 _ _ l1 t360 t361 t364 _ ?side1 ?side2 A9.out).mono ?_); (case side1 => exact cm_ (Kd.C_below HR1.out HB.out)); (case side2 => exact HC1.out); rintro e w11 ⟨v362, rfl, ho0, hb⟩; refine ⟨_, rfl, ?_⟩; have HO363 := am_ (Kd.R_lower ho0 (below_size (bq_))); replace BK358 := bb_ BK358 hb; replace HB := bs_ hb; (try clear hb); (try clear ho0); have hcz12_0 := cq_ BK358.out 0 (.int .i64 0); have hcz12_1 := cq_ BK358.out 1 (.slice none 0 0); have hcz12_2 := cq_ BK358.out 2 (.int .i64 0); have hfz12_0 := blk_frozen BK358.out 0; have hfz12_1 := blk_frozen BK358.out 1; have hfz12_2 := blk_frozen BK358.out 2; obtain ⟨Ao13, co13, eo13⟩ := Kd.R_slice HO363.out; subst eo13))
    refine bodyPost_ret (results_ct rfl _ _ gb358 30 #[.int .i64 t360, .slice Ao13 t361.length co13, .int .i64 t364] (0, 0) _ rfl (bu_ BK358.out) Try.underlying30 rfl (by kernel_rfl)) rfl ?_
    exact ⟨_, by first | rfl | (simp [errW_none, errW_some] <;> rfl) | (simp only [← hji5, ← hji7]; first | rfl | (simp [errW_none, errW_some] <;> rfl)) | (simp [*, errW_none, errW_some] <;> rfl), rq_ (Kd.R_mono (Kd.R_far (p := ⟨gb358, 2, none⟩) (Kd.R_far (p := ⟨gb358, 1, none⟩) (Kd.R_far (p := ⟨gb358, 0, none⟩) (Kd.R_types HO363.out BK358.out (by decide)) (fun _ hk => hk.2) (.int .i64 t360)) (fun _ hk => hk.2) (.slice Ao13 t361.length co13)) (fun _ hk => hk.2) (.int .i64 t364)) (fun _ hk => trivial)), bq_⟩
   ·rw [if_neg c8] at H
    have c8b0 : ((l1.length : Int) == (ji7)) = false := beq_eq_false_iff_ne.mpr c8
    have c8b1 : ((l1.length : Int) != (ji7)) = true := bne_iff_ne.mpr c8
    simp only [Option.some.injEq, Prod.mk.injEq] at H
    obtain ⟨rfl, rfl, rfl, rfl⟩ := H
    go_enter Try.func41, Try.ntmps41
    go_wp2_with (first | ((with_reducible refine gate_dst (N := 4) rfl ?_); (try (refine gate_guard (by rfl) ?_; dsimp only)); refine boxq_ (N := 4) (cs := #[.int .i64 0, .slice none 0 0, .int .i64 0]) (t := 30) ?_; intro gb358 hg w14 hbox hb; have BK358 := am_ (hbox); have GW358 := gz_ hg; have GE358 := gz_ hg; replace HB := bs_ hb; clear hb hbox hg) | ((with_reducible refine gl_ 67 rfl ?_); refine goesM_ (some 7) Try.func67 #[.int .i64 a0, .int .i64 0, .int .i64 6] ?_; (with_reducible refine (spec_l1In.calls a0 0 6 true _ A3.out).mono ?_); rintro e w' ⟨rfl, ⟨nd, rfl⟩⟩; refine ⟨_, rfl, ?_⟩; (try (rw [drewN_self w14]; generalize hq_ : World.drewN w14 _ = w14; replace BK358 : Aside0 (w14.heap[gb358]? = some (.cells #[.int .i64 0, .slice none 0 0, .int .i64 0] 30 (0, 0))) := ⟨by rw [← hq_]; exact (bk_ BK358.out)⟩; replace HB : Aside0 (Below w.heap.size w w14) := ⟨by rw [← hq_]; exact (bq_)⟩; clear hq_)); have hcz15_0 := cq_ BK358.out 0 (.int .i64 0); have hcz15_1 := cq_ BK358.out 1 (.slice none 0 0); have hcz15_2 := cq_ BK358.out 2 (.int .i64 0); have hfz15_0 := blk_frozen BK358.out 0; have hfz15_1 := blk_frozen BK358.out 1; have hfz15_2 := blk_frozen BK358.out 2))
    refine bodyPost_ret (results_ct rfl _ _ gb358 30 #[.int .i64 0, .slice none 0 0, .int .i64 0] (0, 0) _ rfl (bu_ BK358.out) Try.underlying30 rfl (by kernel_rfl)) rfl ?_
    exact ⟨_, by first | rfl | (simp [errW_none, errW_some] <;> rfl) | (simp only [← hji5, ← hji7]; first | rfl | (simp [errW_none, errW_some] <;> rfl)) | (simp [*, errW_none, errW_some] <;> rfl), by first | exact Kd.R_nil _ _ _ _ _ | exact Kd.N_nil _ _ _ _ _ | exact Kd.V_nil _ _ _ _ _ | exact Kd.Q_nil _ _ _ _ _ | exact Kd.S_nil _ _ _ _ _, bq_⟩
  ·rw [if_neg c6] at H
   exact absurd H (by simp)
 ·replace c4 := Bool.eq_false_iff.mpr c4
  subst c4
  have H1 : (some (0, ([] : List (S75)), 0, false)) = some (r1, r2, r3, r4) := by rw [if_neg (show ¬ (false = true) by decide)] at H; exact H
  clear H
  have H := H1
  clear H1
  simp only [Option.some.injEq, Prod.mk.injEq] at H
  obtain ⟨rfl, rfl, rfl, rfl⟩ := H
  go_enter Try.func41, Try.ntmps41
  go_wp2_with (first | ((with_reducible refine gate_dst (N := 4) rfl ?_); (try (refine gate_guard (by rfl) ?_; dsimp only)); refine boxq_ (N := 4) (cs := #[.int .i64 0, .slice none 0 0, .int .i64 0]) (t := 30) ?_; intro gb358 hg w16 hbox hb; have BK358 := am_ (hbox); have GW358 := gz_ hg; have GE358 := gz_ hg; replace HB := bs_ hb; clear hb hbox hg) | ((with_reducible refine gl_ 67 rfl ?_); refine goesM_ (some 7) Try.func67 #[.int .i64 a0, .int .i64 0, .int .i64 6] ?_; (with_reducible refine (spec_l1In.calls a0 0 6 false _ A3.out).mono ?_); rintro e w' ⟨rfl, ⟨nd, rfl⟩⟩; refine ⟨_, rfl, ?_⟩; (try (rw [drewN_self w16]; generalize hq_ : World.drewN w16 _ = w16; replace BK358 : Aside0 (w16.heap[gb358]? = some (.cells #[.int .i64 0, .slice none 0 0, .int .i64 0] 30 (0, 0))) := ⟨by rw [← hq_]; exact (bk_ BK358.out)⟩; replace HB : Aside0 (Below w.heap.size w w16) := ⟨by rw [← hq_]; exact (bq_)⟩; clear hq_)); have hcz17_0 := cq_ BK358.out 0 (.int .i64 0); have hcz17_1 := cq_ BK358.out 1 (.slice none 0 0); have hcz17_2 := cq_ BK358.out 2 (.int .i64 0); have hfz17_0 := blk_frozen BK358.out 0; have hfz17_1 := blk_frozen BK358.out 1; have hfz17_2 := blk_frozen BK358.out 2))
  refine bodyPost_ret (results_ct rfl _ _ gb358 30 #[.int .i64 0, .slice none 0 0, .int .i64 0] (0, 0) _ rfl (bu_ BK358.out) Try.underlying30 rfl (by kernel_rfl)) rfl ?_
  exact ⟨_, by first | rfl | (simp [errW_none, errW_some] <;> rfl) | (simp [*, errW_none, errW_some] <;> rfl), by first | exact Kd.R_nil _ _ _ _ _ | exact Kd.N_nil _ _ _ _ _ | exact Kd.V_nil _ _ _ _ _ | exact Kd.Q_nil _ _ _ _ _ | exact Kd.S_nil _ _ _ _ _, bq_⟩
def spec_l1Cur_table.l0 : Nat → Int → List Bool → Int → Int → List Int → Int → Int → Option (List Bool × Int × Int)
 | 0, _, _, _, _, _, _, _ => none
 | k + 1, x1, x5, x6, x7, x1000, x1001, x1002 => if 0 ≤ (IntKind.u64.wrap (x1)) then (if x7 < (shl .i64 1 (IntKind.u64.wrap (x1))) then ((spec_l1Cur_one.f x1000 x1001 x1002 x6).bind fun bt368 => (if x5.length < 140737488355328 then (spec_l1Cur_table.l0 k x1 (x5 ++ [bt368.1]) x6 (wrap64 (x7 + 1)) x1000 bt368.2.1 bt368.2.2) else (none))) else (some (x5, x1001, x1002))) else (none)
def spec_l1Cur_table.f (k : Nat) (s0_0 : List Int) (s0_1 : Int) (s0_2 : Int) (a1 : Int) : Option (List Bool × Int × Int) := (spec_l1Cur_pick.f s0_0 s0_1 s0_2 3).bind fun bt365 => (spec_l1Cur_table.l0 k a1 ([] : List Bool) (wrap64 (2 + bt365.1)) 0 s0_0 bt365.2.1 bt365.2.2)
set_option maxHeartbeats 8000000 in
set_option maxRecDepth 100000 in
theorem spec_l1Cur_table.calls (k : Nat) (g : Nat) (s0_0 : List Int) (s0_1 : Int) (s0_2 : Int) (a1 : Int) (r1 : List Bool) (r2 : Int) (r3 : Int) (w0 w : World) (hI : IsS95 w0 w g s0_0 s0_1 s0_2) (hB : Below w0.heap.size w0 w) (h : spec_l1Cur_table.f k s0_0 s0_1 s0_2 a1 = some (r1, r2, r3)) :
  Calls Try.prog 83 #[.pointer (some ⟨g, 0, none⟩), .int .i64 a1] w fun e w' => ∃ v0_ : Value, e = .returned (v0_) ∧ Kd.R Kd.bool 4 w' w.heap.size (fun _ => True) v0_ r1 ∧ IsS95 w0 w' g s0_0 r2 r3 ∧ Below w0.heap.size w0 w' ∧ KeepBut w w' g none := by
 have HI0 := am_ hI
 have HK := am_ (KeepBut.refl w g none)
 have HL := am_ hB.size
 clear hI
 have HW0 := am_ hB.size
 have HB := am_ hB
 clear hB
 have H : ((spec_l1Cur_pick.f s0_0 s0_1 s0_2 3).bind fun bt365 => (spec_l1Cur_table.l0 k a1 ([] : List Bool) (wrap64 (2 + bt365.1)) 0 s0_0 bt365.2.1 bt365.2.2)) = some (r1, r2, r3) := h
 clear h
 replace H := Option.bind_eq_some_iff.mp H
 obtain ⟨⟨t365, t366, t367⟩, A30, H⟩ := H
 replace H : (spec_l1Cur_table.l0 k a1 ([] : List Bool) (wrap64 (2 + t365)) 0 s0_0 t366 t367) = some (r1, r2, r3) := H
 have A3 := am_ A30
 clear A30
 have H' := am_ H
 clear H
 go_enter Try.func83, Try.ntmps83
 go_wp2_with (first | ((with_reducible refine gl_ 81 rfl ?_); refine goesM_ (some 9) Try.func81 #[.pointer (some ⟨g, 0, none⟩), .int .i64 3] ?_; (with_reducible refine (spec_l1Cur_pick.calls g s0_0 s0_1 s0_2 3 t365 t366 t367 w0 _ ?side1 ?side2 A3.out).mono ?_); (case side1 => repeat (first | (with_reducible first | exact HI0.out | apply IsS95.alloc | apply IsS95.drewN | apply IsS95.drew | apply IsS95.set_1 | apply IsS95.set_2) | exact HI0.out)); (case side2 => repeat (first | (with_reducible first | exact HB.out | apply below_alloc | apply pw_below_drewN | apply below_drew1 | refine below_set ?_ (IsS95.ge HI0.out)) | exact HB.out)); rintro e w4 ⟨rfl, hi, hb, hk⟩; refine ⟨_, rfl, ?_⟩; replace HK := am_ (KeepBut.trans y14_ hk (.inl rfl)); replace HB := am_ (hb); replace HI0 := am_ (hi); (try clear hb); (try clear hk); (try clear hi)))
 go_loopg [5, 7] k (fun kq v5 v7 w' => ∃ (x5_1 : List Bool) (x7_1 : Int) (x1001_1 : Int) (x1002_1 : Int), v7 = .int .i64 x7_1 ∧ Aside0 (spec_l1Cur_table.l0 kq a1 x5_1 (wrap64 (2 + t365)) x7_1 s0_0 x1001_1 x1002_1 = some (r1, r2, r3)) ∧ Aside0 (kq ≤ k) ∧ Aside0 (Kd.R Kd.bool 4 w' w.heap.size (fun _ => True) v5 x5_1) ∧ Aside0 (IsS95 w0 w' g s0_0 x1001_1 x1002_1) ∧ Aside0 (KeepBut w w' g none) ∧ Aside0 (Below w0.heap.size w0 w'))
 case atStart => exact ⟨(([] : List Bool)), (0), (t366), (t367), y30_, H', ⟨Nat.le_refl _⟩, ⟨by first | exact Kd.R_nil _ _ _ _ _ | exact Kd.N_nil _ _ _ _ _ | exact Kd.V_nil _ _ _ _ _ | exact Kd.Q_nil _ _ _ _ _ | exact Kd.S_nil _ _ _ _ _⟩, ⟨by repeat (first | (with_reducible first | exact HI0.out | apply IsS95.alloc | apply IsS95.drewN | apply IsS95.drew | apply IsS95.set_1 | apply IsS95.set_2) | exact HI0.out)⟩, ⟨by repeat (first | (with_reducible first | exact HK.out | apply KeepBut.set_ | apply keep_drewN | apply keep_drew | apply keep_alloc) | exact HK.out)⟩, ⟨by repeat (first | (with_reducible first | exact HB.out | apply below_alloc | apply pw_below_drewN | apply below_drew1 | refine below_set ?_ (IsS95.ge HI0.out)) | exact HB.out)⟩⟩
 case round =>
  clear H'
  try clear p2
  obtain ⟨x5_1, x7_1, x1001_1, x1002_1, rfl, HA, HK1, HO_5, HI0, HK, HB⟩ := hrel
  cases gk with
  | zero => exact absurd HA.out (by simp [spec_l1Cur_table.l0])
  | succ k1 =>
   have H := HA.out
   clear HA
   simp only [spec_l1Cur_table.l0] at H
   obtain ⟨ji5, hji5⟩ : ∃ j_ : Int, (IntKind.u64.wrap (a1)) = j_ := ⟨_, rfl⟩
   replace H : (if 0 ≤ (ji5) then (if x7_1 < (shl .i64 1 (ji5)) then ((spec_l1Cur_one.f s0_0 x1001_1 x1002_1 (wrap64 (2 + t365))).bind fun bt368 => (if x5_1.length < 140737488355328 then (spec_l1Cur_table.l0 k1 a1 (x5_1 ++ [bt368.1]) (wrap64 (2 + t365)) (wrap64 (x7_1 + 1)) s0_0 bt368.2.1 bt368.2.2) else (none))) else (some (x5_1, x1001_1, x1002_1))) else (none)) = some (r1, r2, r3) := by first | (rw [hji5] at H; exact H) | (simp only [hji5] at H ⊢; exact H)
   by_cases c6 : 0 ≤ (ji5)
   ·rw [if_pos c6] at H
    have c6b0 := eq_true c6
    have c6b1 : decide (0 ≤ (ji5)) = true := decide_eq_true c6
    clear c6
    obtain ⟨ji7, hji7⟩ : ∃ j_ : Int, (shl .i64 1 (ji5)) = j_ := ⟨_, rfl⟩
    replace H : (if x7_1 < (ji7) then ((spec_l1Cur_one.f s0_0 x1001_1 x1002_1 (wrap64 (2 + t365))).bind fun bt368 => (if x5_1.length < 140737488355328 then (spec_l1Cur_table.l0 k1 a1 (x5_1 ++ [bt368.1]) (wrap64 (2 + t365)) (wrap64 (x7_1 + 1)) s0_0 bt368.2.1 bt368.2.2) else (none))) else (some (x5_1, x1001_1, x1002_1))) = some (r1, r2, r3) := by first | (rw [hji7] at H; exact H) | (simp only [hji7] at H ⊢; exact H)
    have hji7_ : (IntKind.i64.wrap (1 * 2 ^ min (ji5).toNat 64)) = ji7 := hji7
    have hji7z : (ji5) ≤ 64 → (IntKind.i64.wrap (1 * 2 ^ (ji5).toNat)) = ji7 := shl_small hji7
    have hji7u : (IntKind.i64.wrap (2 ^ min (ji5).toNat 64)) = ji7 := by have h_ := hji7_; rw [Int.one_mul] at h_; exact h_
    have hji7v : (ji5) ≤ 64 → (IntKind.i64.wrap (2 ^ (ji5).toNat)) = ji7 := fun hle_ => by have h_ := hji7z hle_; rw [Int.one_mul] at h_; exact h_
    have hji7y : (wrap64 (1 * 2 ^ min (ji5).toNat 64)) = ji7 := (i64_w _).symm.trans hji7_
    have hji7x : (ji5) ≤ 64 → (wrap64 (1 * 2 ^ (ji5).toNat)) = ji7 := fun h_ => (i64_w _).symm.trans (hji7z h_)
    by_cases c8 : x7_1 < (ji7)
    ·rw [if_pos c8] at H
     have c8b0 : decide (x7_1 < (ji7)) = true := decide_eq_true c8
     clear c8
     replace H := Option.bind_eq_some_iff.mp H
     obtain ⟨⟨t368, t369, t370⟩, A90, H⟩ := H
     replace H : (if x5_1.length < 140737488355328 then (spec_l1Cur_table.l0 k1 a1 (x5_1 ++ [t368]) (wrap64 (2 + t365)) (wrap64 (x7_1 + 1)) s0_0 t369 t370) else (none)) = some (r1, r2, r3) := H
     have A9 := am_ A90
     clear A90
     by_cases c10 : x5_1.length < 140737488355328
     ·rw [if_pos c10] at H
      have LMc10 := am_ c10
      clear c10
      obtain ⟨y371, hy371⟩ : ∃ y_ : List Bool, y_ = (x5_1 ++ [t368]) := ⟨_, rfl⟩
      replace H : (spec_l1Cur_table.l0 k1 a1 y371 (wrap64 (2 + t365)) (wrap64 (x7_1 + 1)) s0_0 t369 t370) = some (r1, r2, r3) := by first | (rw [hy371]; with_reducible exact H) | (have H2_ := (Option.bind_some _ _).symm.trans H; rw [hy371]; with_reducible exact H2_) | (have H2_ := (Option.bind_some _ _).symm.trans H; with_reducible exact H2_) | with_reducible exact H | (rw [hy371]; exact H) | exact H
      have Ny371 := am_ hy371
      clear hy371
      have H' := am_ H
      clear H
      go_wp2_with (first | ((with_reducible refine gl_ 82 rfl ?_); refine goesM_ (some 21) Try.func82 #[.pointer (some ⟨g, 0, none⟩), .int .i64 (wrap64 (2 + t365))] ?_; (with_reducible refine (spec_l1Cur_one.calls g s0_0 x1001_1 x1002_1 (wrap64 (2 + t365)) t368 t369 t370 w0 _ ?side1 ?side2 A9.out).mono ?_); (case side1 => repeat (first | (with_reducible first | exact HI0.out | apply IsS95.alloc | apply IsS95.drewN | apply IsS95.drew | apply IsS95.set_1 | apply IsS95.set_2) | exact HI0.out)); (case side2 => repeat (first | (with_reducible first | exact HB.out | apply below_alloc | apply pw_below_drewN | apply below_drew1 | refine below_set ?_ (IsS95.ge HI0.out)) | exact HB.out)); rintro e w11 ⟨rfl, hi, hb, hk⟩; refine ⟨_, rfl, ?_⟩; replace HO_5 := am_ (Kd.R_mono (Kd.R_keep (IsS95.apart (show IsS95 w0 _ g s0_0 x1001_1 x1002_1 from by repeat (first | (with_reducible first | exact HI0.out | apply IsS95.alloc | apply IsS95.drewN | apply IsS95.drew | apply IsS95.set_1 | apply IsS95.set_2) | exact HI0.out)) (rq_ HO_5.out) (by decide)) hk (fun _ h => h.2)) (fun _ h => h.1)); replace HK := am_ (KeepBut.trans y14_ hk (.inl rfl)); replace HB := am_ (hb); replace HI0 := am_ (hi); (try clear hb); (try clear hk); (try clear hi)) | ((with_reducible refine gate_builtin (b := .append) (xs := #[.tmp 18, .tmp 22]) rfl ?_); at_builtin; refine Kd.R_append Kd.bool w.heap.size rfl (.tmp 18) (.tmp 22) 34 4 (.bool false) 1 rfl Try.underlying34 info4 rfl (by decide) (by omega) u5 x5_1 t368 [.bool t368] (fun _ => True) (fun _ => False) rfl rfl ?aP (fun _ hk => hk.elim) ?aF ?aO (Below.refl _ _) ?aS ?aL ?_; (case aP => exact rfl); (case aF => exact (fun _ _ => trivial)); (case aO => exact (rq_ HO_5.out)); (case aS => exact (keep_size (w := w) (g := g) (row := none) y14_)); (case aL => have := LMc10.out; omega); intro v372 w12 ho hb hg hat; rw [← Ny371.out] at ho; replace HB := am_ (below_weaken y12_ HL.out hb); replace HI0 := am_ (IsS95.grown y13_ hg (IsS95.own_ne HI0.out HO_5.out (by decide))); replace HK := am_ (KeepBut.trans y14_ (KeepBut.of_grown hg g) (Kd.R_base2 HO_5.out)); have HO373 := am_ (ho); clear HO_5; clear ho hb hg hat))
      go_roundg k1
      case measure => have := HK1.out; omega
      case rel => exact ⟨(y371), (wrap64 (x7_1 + 1)), (t369), (t370), y30_, H', ⟨by have := HK1.out; omega⟩, ⟨rq_ HO373.out⟩, ⟨by repeat (first | (with_reducible first | exact HI0.out | apply IsS95.alloc | apply IsS95.drewN | apply IsS95.drew | apply IsS95.set_1 | apply IsS95.set_2) | exact HI0.out)⟩, ⟨by repeat (first | (with_reducible first | exact HK.out | apply KeepBut.set_ | apply keep_drewN | apply keep_drew | apply keep_alloc) | exact HK.out)⟩, ⟨by repeat (first | (with_reducible first | exact HB.out | apply below_alloc | apply pw_below_drewN | apply below_drew1 | refine below_set ?_ (IsS95.ge HI0.out)) | exact HB.out)⟩⟩
     ·rw [if_neg c10] at H
      exact absurd H (by simp)
    ·rw [if_neg c8] at H
     have c8b0 : decide (x7_1 < (ji7)) = false := decide_eq_false c8
     clear c8
     simp only [Option.some.injEq, Prod.mk.injEq] at H
     obtain ⟨rfl, rfl, rfl⟩ := H
     go_wp2
     go_ret
     exact ⟨_, by first | rfl | (simp [errW_none, errW_some] <;> rfl) | (simp only [← hji5, ← hji7]; first | rfl | (simp [errW_none, errW_some] <;> rfl)) | (simp [*, errW_none, errW_some] <;> rfl), rq_ HO_5.out, by repeat (first | (with_reducible first | exact HI0.out | apply IsS95.alloc | apply IsS95.drewN | apply IsS95.drew | apply IsS95.set_1 | apply IsS95.set_2) | exact HI0.out), by repeat (first | (with_reducible first | exact HB.out | apply below_alloc | apply pw_below_drewN | apply below_drew1 | refine below_set ?_ (IsS95.ge HI0.out)) | exact HB.out), by repeat (first | (with_reducible first | exact HK.out | apply KeepBut.set_ | apply keep_drewN | apply keep_drew | apply keep_alloc) | exact HK.out)⟩
   ·rw [if_neg c6] at H
    exact absurd H (by simp)
def spec_l1Cur_diagram.f (k : Nat) (s0_0 : List Int) (s0_1 : Int) (s0_2 : Int) (a1 : Int) : Option (Int × (List (S75)) × Int × Int × Int) := (spec_l1Cur_table.f k s0_0 s0_1 s0_2 a1).bind fun bt375 => ((spec_DiagramOf.f k a1 bt375.1).bind fun bt380 => ((spec_l1Cur_pick.f s0_0 bt375.2.1 bt375.2.2 20).bind fun bt387 => (if bt387.1 = 0 then ((spec_l1Cur_pick.f s0_0 bt387.2.1 bt387.2.2 5).bind fun bt390 => (some (bt380.1, bt380.2.1, wrap64 (bt390.1 - 1), bt390.2.1, bt390.2.2))) else (if bt387.1 = 1 then ((spec_l1Cur_pick.f s0_0 bt387.2.1 bt387.2.2 4).bind fun bt393 => ((spec_l1Cur_pick.f s0_0 bt393.2.1 bt393.2.2 3).bind fun bt396 => ((spec_l1Cur_pick.f s0_0 bt396.2.1 bt396.2.2 3).bind fun bt399 => (if bt380.2.1.length < 5864062014805 then (some (bt380.1, (bt380.2.1 ++ [(⟨bt393.1, bt396.1, bt399.1⟩ : S75)]), bt380.2.2.1, bt399.2.1, bt399.2.2)) else (none))))) else (some (bt380.1, bt380.2.1, bt380.2.2.1, bt387.2.1, bt387.2.2))))))
def spec_l1Cur_diagram.T6 : Bool × List (List Nat × List Nat) := (true, [([], []), ([0], [0]), ([], []), ([2], [2]), ([], []), ([4, 3], [4]), ([], []), ([6, 5], [6]), ([3, 5, 7], [3, 5, 7]), ([8], [8]), ([1, 9, 7], [1, 9]), ([0, 1, 2, 3, 4, 5, 6, 7, 8, 9, 10], []), ([11, 10, 10, 0, 1, 2, 3, 4, 5, 6, 7, 8, 9, 10], [10, 11])])
def spec_l1Cur_diagram.B6 : List Nat := [0, 1, 0, 4, 0, 28, 0, 124, 252, 508, 1023, 2047, 4095]
theorem spec_l1Cur_diagram.tab6 : rtab .any (opsOf Try.f86 6) = spec_l1Cur_diagram.T6 := by kernel_rfl
theorem spec_l1Cur_diagram.bits6 : waitsOk spec_l1Cur_diagram.T6.2 spec_l1Cur_diagram.B6 = true := by kernel_rfl
set_option maxHeartbeats 8000000 in
set_option maxRecDepth 100000 in
theorem spec_l1Cur_diagram.calls (k : Nat) (g : Nat) (s0_0 : List Int) (s0_1 : Int) (s0_2 : Int) (a1 : Int) (r1 : Int) (r2 : List (S75)) (r3 : Int) (r4 : Int) (r5 : Int) (w0 w : World) (hI : IsS95 w0 w g s0_0 s0_1 s0_2) (hB : Below w0.heap.size w0 w) (h : spec_l1Cur_diagram.f k s0_0 s0_1 s0_2 a1 = some (r1, r2, r3, r4, r5)) :
  Calls Try.prog 86 #[.pointer (some ⟨g, 0, none⟩), .int .i64 a1] w fun e w' => ∃ v1_ : Value, e = .returned (.agg #[.int .i64 r1, v1_, .int .i64 r3]) ∧ Kd.R k75 75 w' w.heap.size (fun _ => True) v1_ r2 ∧ IsS95 w0 w' g s0_0 r4 r5 ∧ Below w0.heap.size w0 w' ∧ KeepBut w w' g none := by
 have hu30 := Try.underlying30
 have hu75 := Try.underlying75
 have HI0 := am_ hI
 have HK := am_ (KeepBut.refl w g none)
 have HL := am_ hB.size
 clear hI
 have HW0 := am_ hB.size
 have HB := am_ hB
 clear hB
 have H : ((spec_l1Cur_table.f k s0_0 s0_1 s0_2 a1).bind fun bt375 => ((spec_DiagramOf.f k a1 bt375.1).bind fun bt380 => ((spec_l1Cur_pick.f s0_0 bt375.2.1 bt375.2.2 20).bind fun bt387 => (if bt387.1 = 0 then ((spec_l1Cur_pick.f s0_0 bt387.2.1 bt387.2.2 5).bind fun bt390 => (some (bt380.1, bt380.2.1, wrap64 (bt390.1 - 1), bt390.2.1, bt390.2.2))) else (if bt387.1 = 1 then ((spec_l1Cur_pick.f s0_0 bt387.2.1 bt387.2.2 4).bind fun bt393 => ((spec_l1Cur_pick.f s0_0 bt393.2.1 bt393.2.2 3).bind fun bt396 => ((spec_l1Cur_pick.f s0_0 bt396.2.1 bt396.2.2 3).bind fun bt399 => (if bt380.2.1.length < 5864062014805 then (some (bt380.1, (bt380.2.1 ++ [(⟨bt393.1, bt396.1, bt399.1⟩ : S75)]), bt380.2.2.1, bt399.2.1, bt399.2.2)) else (none))))) else (some (bt380.1, bt380.2.1, bt380.2.2.1, bt387.2.1, bt387.2.2))))))) = some (r1, r2, r3, r4, r5) := h
 clear h
 replace H := Option.bind_eq_some_iff.mp H
 obtain ⟨⟨t375, t378, t379⟩, A30, H⟩ := H
 replace H : ((spec_DiagramOf.f k a1 t375).bind fun bt380 => ((spec_l1Cur_pick.f s0_0 t378 t379 20).bind fun bt387 => (if bt387.1 = 0 then ((spec_l1Cur_pick.f s0_0 bt387.2.1 bt387.2.2 5).bind fun bt390 => (some (bt380.1, bt380.2.1, wrap64 (bt390.1 - 1), bt390.2.1, bt390.2.2))) else (if bt387.1 = 1 then ((spec_l1Cur_pick.f s0_0 bt387.2.1 bt387.2.2 4).bind fun bt393 => ((spec_l1Cur_pick.f s0_0 bt393.2.1 bt393.2.2 3).bind fun bt396 => ((spec_l1Cur_pick.f s0_0 bt396.2.1 bt396.2.2 3).bind fun bt399 => (if bt380.2.1.length < 5864062014805 then (some (bt380.1, (bt380.2.1 ++ [(⟨bt393.1, bt396.1, bt399.1⟩ : S75)]), bt380.2.2.1, bt399.2.1, bt399.2.2)) else (none))))) else (some (bt380.1, bt380.2.1, bt380.2.2.1, bt387.2.1, bt387.2.2)))))) = some (r1, r2, r3, r4, r5) := H
 have A3 := am_ A30
 clear A30
 replace H := Option.bind_eq_some_iff.mp H
 obtain ⟨⟨t380, t381, t384, t385⟩, A40, H⟩ := H
 replace H : ((spec_l1Cur_pick.f s0_0 t378 t379 20).bind fun bt387 => (if bt387.1 = 0 then ((spec_l1Cur_pick.f s0_0 bt387.2.1 bt387.2.2 5).bind fun bt390 => (some (t380, t381, wrap64 (bt390.1 - 1), bt390.2.1, bt390.2.2))) else (if bt387.1 = 1 then ((spec_l1Cur_pick.f s0_0 bt387.2.1 bt387.2.2 4).bind fun bt393 => ((spec_l1Cur_pick.f s0_0 bt393.2.1 bt393.2.2 3).bind fun bt396 => ((spec_l1Cur_pick.f s0_0 bt396.2.1 bt396.2.2 3).bind fun bt399 => (if t381.length < 5864062014805 then (some (t380, (t381 ++ [(⟨bt393.1, bt396.1, bt399.1⟩ : S75)]), t384, bt399.2.1, bt399.2.2)) else (none))))) else (some (t380, t381, t384, bt387.2.1, bt387.2.2))))) = some (r1, r2, r3, r4, r5) := H
 have A4 := am_ A40
 clear A40
 replace H := Option.bind_eq_some_iff.mp H
 obtain ⟨⟨t387, t388, t389⟩, A50, H⟩ := H
 replace H : (if t387 = 0 then ((spec_l1Cur_pick.f s0_0 t388 t389 5).bind fun bt390 => (some (t380, t381, wrap64 (bt390.1 - 1), bt390.2.1, bt390.2.2))) else (if t387 = 1 then ((spec_l1Cur_pick.f s0_0 t388 t389 4).bind fun bt393 => ((spec_l1Cur_pick.f s0_0 bt393.2.1 bt393.2.2 3).bind fun bt396 => ((spec_l1Cur_pick.f s0_0 bt396.2.1 bt396.2.2 3).bind fun bt399 => (if t381.length < 5864062014805 then (some (t380, (t381 ++ [(⟨bt393.1, bt396.1, bt399.1⟩ : S75)]), t384, bt399.2.1, bt399.2.2)) else (none))))) else (some (t380, t381, t384, t388, t389)))) = some (r1, r2, r3, r4, r5) := H
 have A5 := am_ A50
 clear A50
 by_cases c6 : t387 = 0
 ·rw [if_pos c6] at H
  have c6b0 : (t387 == 0) = true := beq_iff_eq.mpr c6
  have c6b1 : (t387 != 0) = false := bne_eq_false_iff_eq.mpr c6
  clear c6
  replace H := Option.bind_eq_some_iff.mp H
  obtain ⟨⟨t390, t391, t392⟩, A70, H⟩ := H
  replace H : (some (t380, t381, wrap64 (t390 - 1), t391, t392)) = some (r1, r2, r3, r4, r5) := H
  have A7 := am_ A70
  clear A70
  simp only [Option.some.injEq, Prod.mk.injEq] at H
  obtain ⟨rfl, rfl, rfl, rfl, rfl⟩ := H
  go_enter Try.func86, Try.ntmps86
  go_wp2_with (first | ((with_reducible refine gate_dst (N := 4) rfl ?_); refine boxq_ (N := 4) (cs := #[.int .i64 0, .slice none 0 0, .int .i64 0]) (t := 30) ?_; intro gb374 hg w8 hbox hb; replace HB := am_ (below_step y12_ hb); have BK374 := am_ (hbox); have GW374 := am_ ((y6_ : w.heap.size ≤ gb374)); have GE374 := am_ ((Nat.le_trans HW0.out (y6_ : w.heap.size ≤ gb374) : w0.heap.size ≤ gb374)); replace HK := am_ (KeepBut.trans y14_ (KeepBut.of_below hb g none) (.inl rfl)); have NB0_374 := am_ ((y2_ : g ≠ gb374)); have NB374_0 := am_ ((y3_ : gb374 ≠ g)); replace HI0 := am_ (IsS95.below y13_ hb); clear hb hbox hg) | ((with_reducible refine gl_ 83 rfl ?_); refine goesM_ (some 11) Try.func83 #[.pointer (some ⟨g, 0, none⟩), .int .i64 a1] ?_; (with_reducible refine (spec_l1Cur_table.calls k g s0_0 s0_1 s0_2 a1 t375 t378 t379 w0 _ ?side1 ?side2 A3.out).mono ?_); (case side1 => repeat (first | (with_reducible first | exact HI0.out | apply IsS95.alloc | apply IsS95.drewN | apply IsS95.drew | apply IsS95.set_1 | apply IsS95.set_2 | refine IsS95.far ?_ NB0_374.out _) | exact HI0.out)); (case side2 => repeat (first | (with_reducible first | exact HB.out | apply below_alloc | apply pw_below_drewN | apply below_drew1 | refine below_set ?_ (IsS95.ge HI0.out) | refine below_set ?_ GE374.out) | exact HB.out)); rintro e w9 ⟨v376, rfl, ho0, hi, hb, hk⟩; refine ⟨_, rfl, ?_⟩; replace BK374 := am_ (KeepBut.blk hk (g' := gb374) (o := .cells #[.int .i64 0, .slice none 0 0, .int .i64 0] 30 (0, 0)) (bk_ BK374.out) NB374_0.out (by simp)); have HO377 := am_ (Kd.R_lower ho0 (keep_size (w := w) (g := g) (row := none) y11_)); replace HK := am_ (KeepBut.trans y11_ hk (.inl rfl)); replace HB := am_ (hb); replace HI0 := am_ (hi); (try clear hb); (try clear hk); (try clear hi); (try clear ho0); obtain ⟨Ao10, co10, eo10⟩ := Kd.R_slice HO377.out; subst eo10) | ((with_reducible refine gl_ 41 rfl ?_); refine goesM_ (some 12) Try.func41 #[.int .i64 a1, .slice Ao10 t375.length co10] ?_; (with_reducible refine (spec_DiagramOf.calls k a1 _ _ t375 t380 t381 t384 t385 _ ?side1 ?side2 A4.out).mono ?_); (case side1 => exact cm_ (Kd.R_reads' HO377.out).2.2); (case side2 => exact (Kd.R_reads' HO377.out).2.1); rintro e w11 ⟨v382, rfl, ho0, hb⟩; refine ⟨_, rfl, ?_⟩; replace HO377 := am_ (Kd.R_below (rq_ HO377.out) hb); have HO383 := am_ (Kd.R_lower ho0 (keep_size (w := w) (g := g) (row := none) y11_)); replace BK374 := bb_ BK374 hb; replace HK := am_ (KeepBut.trans y11_ (KeepBut.of_below hb g none) (.inl rfl)); replace HB := am_ (below_step y8_ hb); replace HI0 := am_ (IsS95.below y7_ hb); (try clear hb); (try clear hk); (try clear hi); (try clear ho0)) | ((with_reducible refine gate_dst (N := 5) rfl ?_); refine boxq_ (N := 5) (cs := #[.int .i64 0, .slice none 0 0, .int .i64 0]) (t := 30) ?_; intro gb386 hg w12 hbox hb; replace HO377 := am_ (Kd.R_below (rq_ HO377.out) hb); replace HO383 := am_ (Kd.R_below (rq_ HO383.out) hb); replace HB := am_ (below_step y8_ hb); have BK386 := am_ (hbox); have GW386 := am_ ((y4_ : w.heap.size ≤ gb386)); have GE386 := am_ ((Nat.le_trans HW0.out (y4_ : w.heap.size ≤ gb386) : w0.heap.size ≤ gb386)); replace HK := am_ (KeepBut.trans y11_ (KeepBut.of_below hb g none) (.inl rfl)); have NB374_386 := nl_ BK374 hg; have NB386_374 := nr_ BK374 hg; replace BK374 := bb_ BK374 hb; have NB0_386 := am_ ((y0_ : g ≠ gb386)); have NB386_0 := am_ ((y1_ : gb386 ≠ g)); replace HI0 := am_ (IsS95.below y7_ hb); clear hb hbox hg; have hnb13 := NB386_374.out; have hnc13 := NB374_386.out; have hnb14 := NB386_0.out; have hnc14 := NB0_386.out; have hcz15_0 := cq_ BK386.out 0 (.int .i64 0); have hcz15_1 := cq_ BK386.out 1 (.slice none 0 0); have hcz15_2 := cq_ BK386.out 2 (.int .i64 0); have hfz15_0 := blk_frozen BK386.out 0; have hfz15_1 := blk_frozen BK386.out 1; have hfz15_2 := blk_frozen BK386.out 2; obtain ⟨Ao16, co16, eo16⟩ := Kd.R_slice HO383.out; subst eo16) | ((with_reducible refine gl_ 81 rfl ?_); refine goesM_ (some 16) Try.func81 #[.pointer (some ⟨g, 0, none⟩), .int .i64 20] ?_; (with_reducible refine (spec_l1Cur_pick.calls g s0_0 t378 t379 20 t387 t388 t389 w0 _ ?side1 ?side2 A5.out).mono ?_); (case side1 => repeat (first | (with_reducible first | exact HI0.out | apply IsS95.alloc | apply IsS95.drewN | apply IsS95.drew | apply IsS95.set_1 | apply IsS95.set_2 | refine IsS95.far ?_ NB0_374.out _ | refine IsS95.far ?_ NB0_386.out _) | exact HI0.out)); (case side2 => repeat (first | (with_reducible first | exact HB.out | apply below_alloc | apply pw_below_drewN | apply below_drew1 | refine below_set ?_ (IsS95.ge HI0.out) | refine below_set ?_ GE374.out | refine below_set ?_ GE386.out) | exact HB.out)); rintro e w17 ⟨rfl, hi, hb, hk⟩; refine ⟨_, rfl, ?_⟩; replace BK374 := am_ (KeepBut.blk hk (g' := gb374) (o := .cells #[.int .i64 0, .slice none 0 0, .int .i64 0] 30 (0, 0)) (bu_ BK374.out) NB374_0.out (by simp)); replace HO377 := am_ (Kd.R_mono (Kd.R_keep (IsS95.apart (show IsS95 w0 _ g s0_0 t378 t379 from by repeat (first | (with_reducible first | exact HI0.out | apply IsS95.alloc | apply IsS95.drewN | apply IsS95.drew | apply IsS95.set_1 | apply IsS95.set_2 | refine IsS95.far ?_ NB0_374.out _ | refine IsS95.far ?_ NB0_386.out _) | exact HI0.out)) (rg_ HO377 BK386) (by decide)) hk (fun _ h => h.2)) (fun _ h => h.1)); replace HO383 := am_ (Kd.R_mono (Kd.R_keep (IsS95.apart (show IsS95 w0 _ g s0_0 t378 t379 from by repeat (first | (with_reducible first | exact HI0.out | apply IsS95.alloc | apply IsS95.drewN | apply IsS95.drew | apply IsS95.set_1 | apply IsS95.set_2 | refine IsS95.far ?_ NB0_374.out _ | refine IsS95.far ?_ NB0_386.out _) | exact HI0.out)) (rg_ HO383 BK386) (by decide)) hk (fun _ h => h.2)) (fun _ h => h.1)); replace BK386 := am_ (KeepBut.blk hk (g' := gb386) (o := .cells #[.int .i64 t380, .slice Ao16 t381.length co16, .int .i64 t384] 30 (0, 0)) (bu_ BK386.out) NB386_0.out (by simp)); replace HK := am_ (KeepBut.trans y5_ hk (.inl rfl)); replace HB := am_ (hb); replace HI0 := am_ (hi); (try clear hb); (try clear hk); (try clear hi)) | ((with_reducible refine gl_ 81 rfl ?_); refine goesM_ (some 20) Try.func81 #[.pointer (some ⟨g, 0, none⟩), .int .i64 5] ?_; (with_reducible refine (spec_l1Cur_pick.calls g s0_0 t388 t389 5 t390 t391 t392 w0 _ ?side1 ?side2 A7.out).mono ?_); (case side1 => repeat (first | (with_reducible first | exact HI0.out | apply IsS95.alloc | apply IsS95.drewN | apply IsS95.drew | apply IsS95.set_1 | apply IsS95.set_2 | refine IsS95.far ?_ NB0_374.out _ | refine IsS95.far ?_ NB0_386.out _) | exact HI0.out)); (case side2 => repeat (first | (with_reducible first | exact HB.out | apply below_alloc | apply pw_below_drewN | apply below_drew1 | refine below_set ?_ (IsS95.ge HI0.out) | refine below_set ?_ GE374.out | refine below_set ?_ GE386.out) | exact HB.out)); rintro e w18 ⟨rfl, hi, hb, hk⟩; refine ⟨_, rfl, ?_⟩; replace BK374 := am_ (KeepBut.blk hk (g' := gb374) (o := .cells #[.int .i64 0, .slice none 0 0, .int .i64 0] 30 (0, 0)) (bk_ BK374.out) NB374_0.out (by simp)); replace HO377 := am_ (Kd.R_mono (Kd.R_keep (IsS95.apart (show IsS95 w0 _ g s0_0 t388 t389 from by repeat (first | (with_reducible first | exact HI0.out | apply IsS95.alloc | apply IsS95.drewN | apply IsS95.drew | apply IsS95.set_1 | apply IsS95.set_2 | refine IsS95.far ?_ NB0_374.out _ | refine IsS95.far ?_ NB0_386.out _) | exact HI0.out)) (rq_ HO377.out) (by decide)) hk (fun _ h => h.2)) (fun _ h => h.1)); replace HO383 := am_ (Kd.R_mono (Kd.R_keep (IsS95.apart (show IsS95 w0 _ g s0_0 t388 t389 from by repeat (first | (with_reducible first | exact HI0.out | apply IsS95.alloc | apply IsS95.drewN | apply IsS95.drew | apply IsS95.set_1 | apply IsS95.set_2 | refine IsS95.far ?_ NB0_374.out _ | refine IsS95.far ?_ NB0_386.out _) | exact HI0.out)) (rq_ HO383.out) (by decide)) hk (fun _ h => h.2)) (fun _ h => h.1)); replace BK386 := am_ (KeepBut.blk hk (g' := gb386) (o := .cells #[.int .i64 t380, .slice Ao16 t381.length co16, .int .i64 t384] 30 (0, 0)) (bk_ BK386.out) NB386_0.out (by simp)); replace HK := am_ (KeepBut.trans y5_ hk (.inl rfl)); replace HB := am_ (hb); replace HI0 := am_ (hi); (try clear hb); (try clear hk); (try clear hi); have hcz19_0 := cq_ BK386.out 0 (.int .i64 t380); have hcz19_1 := cq_ BK386.out 1 (.slice Ao16 t381.length co16); have hcz19_2 := cq_ BK386.out 2 (.int .i64 t384); have hfz19_0 := blk_frozen BK386.out 0; have hfz19_1 := blk_frozen BK386.out 1; have hfz19_2 := blk_frozen BK386.out 2; have hnb20 := NB374_0.out; have hnc20 := NB0_374.out; have hcz21_0 := cq_ BK374.out 0 (.int .i64 0); have hcz21_1 := cq_ BK374.out 1 (.slice none 0 0); have hcz21_2 := cq_ BK374.out 2 (.int .i64 0); have hfz21_0 := blk_frozen BK374.out 0; have hfz21_1 := blk_frozen BK374.out 1; have hfz21_2 := blk_frozen BK374.out 2))
  refine bodyPost_ret (results_cell_row rfl _ _ gb374 30 #[.int .i64 t380, .slice Ao16 t381.length co16, .int .i64 (wrap64 (t390 - 1))] (0, 0) _ rfl (bu_ BK374.out) Try.underlying30 rfl (by kernel_rfl)) rfl ?_
  exact ⟨_, by first | rfl | (simp [errW_none, errW_some] <;> rfl) | (simp [*, errW_none, errW_some] <;> rfl), rq_ (Kd.R_mono (Kd.R_far (p := ⟨gb374, 2, none⟩) (Kd.R_far (p := ⟨gb374, 1, none⟩) (Kd.R_far (p := ⟨gb374, 0, none⟩) (Kd.R_far (p := ⟨gb386, 2, none⟩) (Kd.R_types (Kd.R_types HO383.out BK386.out (by decide)) BK374.out (by decide)) (fun _ hk => hk.1.2) (.int .i64 (wrap64 (t390 - 1)))) (fun _ hk => hk.2) (.int .i64 t380)) (fun _ hk => hk.2) (.slice Ao16 t381.length co16)) (fun _ hk => hk.2) (.int .i64 (wrap64 (t390 - 1)))) (fun _ hk => trivial)), by repeat (first | (with_reducible first | exact HI0.out | apply IsS95.alloc | apply IsS95.drewN | apply IsS95.drew | apply IsS95.set_1 | apply IsS95.set_2 | refine IsS95.far ?_ NB0_374.out _ | refine IsS95.far ?_ NB0_386.out _) | exact HI0.out), by repeat (first | (with_reducible first | exact HB.out | apply below_alloc | apply pw_below_drewN | apply below_drew1 | refine below_set ?_ (IsS95.ge HI0.out) | refine below_set ?_ GE374.out | refine below_set ?_ GE386.out) | exact HB.out), by repeat (first | (with_reducible first | exact HK.out | apply KeepBut.set_ | apply keep_drewN | apply keep_drew | apply keep_alloc | refine keep_far ?_ GW374.out _ | refine keep_far ?_ GW386.out _) | exact HK.out)⟩
 ·rw [if_neg c6] at H
  have c6b0 : (t387 == 0) = false := beq_eq_false_iff_ne.mpr c6
  have c6b1 : (t387 != 0) = true := bne_iff_ne.mpr c6
  by_cases c22 : t387 = 1
  ·rw [if_pos c22] at H
   have c22b0 : (t387 == 1) = true := beq_iff_eq.mpr c22
   have c22b1 : (t387 != 1) = false := bne_eq_false_iff_eq.mpr c22
   clear c22
   replace H := Option.bind_eq_some_iff.mp H
   obtain ⟨⟨t393, t394, t395⟩, A230, H⟩ := H
   replace H : ((spec_l1Cur_pick.f s0_0 t394 t395 3).bind fun bt396 => ((spec_l1Cur_pick.f s0_0 bt396.2.1 bt396.2.2 3).bind fun bt399 => (if t381.length < 5864062014805 then (some (t380, (t381 ++ [(⟨t393, bt396.1, bt399.1⟩ : S75)]), t384, bt399.2.1, bt399.2.2)) else (none)))) = some (r1, r2, r3, r4, r5) := H
   have A23 := am_ A230
   clear A230
   replace H := Option.bind_eq_some_iff.mp H
   obtain ⟨⟨t396, t397, t398⟩, A240, H⟩ := H
   replace H : ((spec_l1Cur_pick.f s0_0 t397 t398 3).bind fun bt399 => (if t381.length < 5864062014805 then (some (t380, (t381 ++ [(⟨t393, t396, bt399.1⟩ : S75)]), t384, bt399.2.1, bt399.2.2)) else (none))) = some (r1, r2, r3, r4, r5) := H
   have A24 := am_ A240
   clear A240
   replace H := Option.bind_eq_some_iff.mp H
   obtain ⟨⟨t399, t400, t401⟩, A250, H⟩ := H
   replace H : (if t381.length < 5864062014805 then (some (t380, (t381 ++ [(⟨t393, t396, t399⟩ : S75)]), t384, t400, t401)) else (none)) = some (r1, r2, r3, r4, r5) := H
   have A25 := am_ A250
   clear A250
   by_cases c26 : t381.length < 5864062014805
   ·rw [if_pos c26] at H
    have LMc26 := am_ c26
    clear c26
    obtain ⟨y402, hy402⟩ : ∃ y_ : List (S75), y_ = (t381 ++ [(⟨t393, t396, t399⟩ : S75)]) := ⟨_, rfl⟩
    replace H : (some (t380, y402, t384, t400, t401)) = some (r1, r2, r3, r4, r5) := by first | (rw [hy402]; with_reducible exact H) | (have H2_ := (Option.bind_some _ _).symm.trans H; rw [hy402]; with_reducible exact H2_) | (have H2_ := (Option.bind_some _ _).symm.trans H; with_reducible exact H2_) | with_reducible exact H | (rw [hy402]; exact H) | exact H
    have Ny402 := am_ hy402
    clear hy402
    simp only [Option.some.injEq, Prod.mk.injEq] at H
    obtain ⟨rfl, rfl, rfl, rfl, rfl⟩ := H
    go_enter Try.func86, Try.ntmps86
    try go_wp2_with (first | ((with_reducible refine gate_dst (N := 4) rfl ?_); refine boxq_ (N := 4) (cs := #[.int .i64 0, .slice none 0 0, .int .i64 0]) (t := 30) ?_; intro gb374 hg w27 hbox hb; replace HB := am_ (below_step y12_ hb); have BK374 := am_ (hbox); have GW374 := am_ ((y6_ : w.heap.size ≤ gb374)); have GE374 := am_ ((Nat.le_trans HW0.out (y6_ : w.heap.size ≤ gb374) : w0.heap.size ≤ gb374)); replace HK := am_ (KeepBut.trans y14_ (KeepBut.of_below hb g none) (.inl rfl)); have NB0_374 := am_ ((y2_ : g ≠ gb374)); have NB374_0 := am_ ((y3_ : gb374 ≠ g)); replace HI0 := am_ (IsS95.below y13_ hb); clear hb hbox hg) | ((with_reducible refine gl_ 83 rfl ?_); refine goesM_ (some 11) Try.func83 #[.pointer (some ⟨g, 0, none⟩), .int .i64 a1] ?_; (with_reducible refine (spec_l1Cur_table.calls k g s0_0 s0_1 s0_2 a1 t375 t378 t379 w0 _ ?side1 ?side2 A3.out).mono ?_); (case side1 => repeat (first | (with_reducible first | exact HI0.out | apply IsS95.alloc | apply IsS95.drewN | apply IsS95.drew | apply IsS95.set_1 | apply IsS95.set_2 | refine IsS95.far ?_ NB0_374.out _) | exact HI0.out)); (case side2 => repeat (first | (with_reducible first | exact HB.out | apply below_alloc | apply pw_below_drewN | apply below_drew1 | refine below_set ?_ (IsS95.ge HI0.out) | refine below_set ?_ GE374.out) | exact HB.out)); rintro e w28 ⟨v376, rfl, ho0, hi, hb, hk⟩; refine ⟨_, rfl, ?_⟩; replace BK374 := am_ (KeepBut.blk hk (g' := gb374) (o := .cells #[.int .i64 0, .slice none 0 0, .int .i64 0] 30 (0, 0)) (bk_ BK374.out) NB374_0.out (by simp)); have HO377 := am_ (Kd.R_lower ho0 (keep_size (w := w) (g := g) (row := none) y11_)); replace HK := am_ (KeepBut.trans y11_ hk (.inl rfl)); replace HB := am_ (hb); replace HI0 := am_ (hi); (try clear hb); (try clear hk); (try clear hi); (try clear ho0); obtain ⟨Ao29, co29, eo29⟩ := Kd.R_slice HO377.out; subst eo29) | ((with_reducible refine gl_ 41 rfl ?_); refine goesM_ (some 12) Try.func41 #[.int .i64 a1, .slice Ao29 t375.length co29] ?_; (with_reducible refine (spec_DiagramOf.calls k a1 _ _ t375 t380 t381 t384 t385 _ ?side1 ?side2 A4.out).mono ?_); (case side1 => exact cm_ (Kd.R_reads' HO377.out).2.2); (case side2 => exact (Kd.R_reads' HO377.out).2.1); rintro e w30 ⟨v382, rfl, ho0, hb⟩; refine ⟨_, rfl, ?_⟩; replace HO377 := am_ (Kd.R_below (rq_ HO377.out) hb); have HO383 := am_ (Kd.R_lower ho0 (keep_size (w := w) (g := g) (row := none) y11_)); replace BK374 := bb_ BK374 hb; replace HK := am_ (KeepBut.trans y11_ (KeepBut.of_below hb g none) (.inl rfl)); replace HB := am_ (below_step y8_ hb); replace HI0 := am_ (IsS95.below y7_ hb); (try clear hb); (try clear hk); (try clear hi); (try clear ho0)) | ((with_reducible refine gate_dst (N := 5) rfl ?_); refine boxq_ (N := 5) (cs := #[.int .i64 0, .slice none 0 0, .int .i64 0]) (t := 30) ?_; intro gb386 hg w31 hbox hb; replace HO377 := am_ (Kd.R_below (rq_ HO377.out) hb); replace HO383 := am_ (Kd.R_below (rq_ HO383.out) hb); replace HB := am_ (below_step y8_ hb); have BK386 := am_ (hbox); have GW386 := am_ ((y4_ : w.heap.size ≤ gb386)); have GE386 := am_ ((Nat.le_trans HW0.out (y4_ : w.heap.size ≤ gb386) : w0.heap.size ≤ gb386)); replace HK := am_ (KeepBut.trans y11_ (KeepBut.of_below hb g none) (.inl rfl)); have NB374_386 := nl_ BK374 hg; have NB386_374 := nr_ BK374 hg; replace BK374 := bb_ BK374 hb; have NB0_386 := am_ ((y0_ : g ≠ gb386)); have NB386_0 := am_ ((y1_ : gb386 ≠ g)); replace HI0 := am_ (IsS95.below y7_ hb); clear hb hbox hg; have hnb32 := NB386_374.out; have hnc32 := NB374_386.out; have hnb33 := NB386_0.out; have hnc33 := NB0_386.out; have hcz34_0 := cq_ BK386.out 0 (.int .i64 0); have hcz34_1 := cq_ BK386.out 1 (.slice none 0 0); have hcz34_2 := cq_ BK386.out 2 (.int .i64 0); have hfz34_0 := blk_frozen BK386.out 0; have hfz34_1 := blk_frozen BK386.out 1; have hfz34_2 := blk_frozen BK386.out 2; obtain ⟨Ao35, co35, eo35⟩ := Kd.R_slice HO383.out; subst eo35) | ((with_reducible refine gl_ 81 rfl ?_); refine goesM_ (some 16) Try.func81 #[.pointer (some ⟨g, 0, none⟩), .int .i64 20] ?_; (with_reducible refine (spec_l1Cur_pick.calls g s0_0 t378 t379 20 t387 t388 t389 w0 _ ?side1 ?side2 A5.out).mono ?_); (case side1 => repeat (first | (with_reducible first | exact HI0.out | apply IsS95.alloc | apply IsS95.drewN | apply IsS95.drew | apply IsS95.set_1 | apply IsS95.set_2 | refine IsS95.far ?_ NB0_374.out _ | refine IsS95.far ?_ NB0_386.out _) | exact HI0.out)); (case side2 => repeat (first | (with_reducible first | exact HB.out | apply below_alloc | apply pw_below_drewN | apply below_drew1 | refine below_set ?_ (IsS95.ge HI0.out) | refine below_set ?_ GE374.out | refine below_set ?_ GE386.out) | exact HB.out)); rintro e w36 ⟨rfl, hi, hb, hk⟩; refine ⟨_, rfl, ?_⟩; replace BK374 := am_ (KeepBut.blk hk (g' := gb374) (o := .cells #[.int .i64 0, .slice none 0 0, .int .i64 0] 30 (0, 0)) (bu_ BK374.out) NB374_0.out (by simp)); replace HO377 := am_ (Kd.R_mono (Kd.R_keep (IsS95.apart (show IsS95 w0 _ g s0_0 t378 t379 from by repeat (first | (with_reducible first | exact HI0.out | apply IsS95.alloc | apply IsS95.drewN | apply IsS95.drew | apply IsS95.set_1 | apply IsS95.set_2 | refine IsS95.far ?_ NB0_374.out _ | refine IsS95.far ?_ NB0_386.out _) | exact HI0.out)) (rg_ HO377 BK386) (by decide)) hk (fun _ h => h.2)) (fun _ h => h.1)); replace HO383 := am_ (Kd.R_mono (Kd.R_keep (IsS95.apart (show IsS95 w0 _ g s0_0 t378 t379 from by repeat (first | (with_reducible first | exact HI0.out | apply IsS95.alloc | apply IsS95.drewN | apply IsS95.drew | apply IsS95.set_1 | apply IsS95.set_2 | refine IsS95.far ?_ NB0_374.out _ | refine IsS95.far ?_ NB0_386.out _) | exact HI0.out)) (rg_ HO383 BK386) (by decide)) hk (fun _ h => h.2)) (fun _ h => h.1)); replace BK386 := am_ (KeepBut.blk hk (g' := gb386) (o := .cells #[.int .i64 t380, .slice Ao35 t381.length co35, .int .i64 t384] 30 (0, 0)) (bu_ BK386.out) NB386_0.out (by simp)); replace HK := am_ (KeepBut.trans y5_ hk (.inl rfl)); replace HB := am_ (hb); replace HI0 := am_ (hi); (try clear hb); (try clear hk); (try clear hi)))
    replace HO377 := am_ (Kd.R_drew HO377.out)
    replace HO383 := am_ (Kd.R_drew HO383.out)
    replace BK374 := am_ (blk_drew BK374.out)
    replace BK386 := am_ (blk_drew BK386.out)
    replace HI0 := am_ (IsS95.drew HI0.out)
    replace HK := am_ (keep_drew HK.out)
    replace HB := am_ (below_drew1 HB.out)
    refine start_ (n := 13) (S := fun w' => w'.cell? ⟨gb386, 0, none⟩ = some (.int .i64 t380) ∧ w'.cell? ⟨gb386, 1, none⟩ = some (.slice Ao35 t381.length co35) ∧ w'.cell? ⟨gb386, 2, none⟩ = some (.int .i64 t384)) (ds := [12]) #[false, false, false, false, false, false, false, false, false, false, false, false, false] (by kernel_rfl) rfl rfl ⟨(blk_cell BK386.out 0).trans rfl, (blk_cell BK386.out 1).trans rfl, (blk_cell BK386.out 2).trans rfl⟩ (fun hHeld => ?_); refine with_tabW spec_l1Cur_diagram.tab6 spec_l1Cur_diagram.bits6 (fun HT_ HW_ => ?_)
    generalize w36.drew = w37 at HO377 HO383 BK374 BK386 HI0 HK HB hHeld ⊢
    refine pure_ (i := 0) (N := some 25) (v := ?_) (a' := ?_) #[true, false, false, false, false, false, false, false, false, false, false, false, false] rfl rfl (any_of HT_.out (by kernel_rfl)) (fun _ _ _ h => h) (Or.inl ⟨by rfl, ?_⟩) ?_ ?_
    rotate_left
    ·intro w'
     go_simp
     with_reducible rfl
    rotate_left
    ·simp only [Act.put, List.setIfInBounds_toArray, List.set_cons_zero, List.set_cons_succ, i64_w, i32_w]
     rfl
    refine pure_ (i := 2) (N := some 27) (v := ?_) (a' := ?_) #[true, false, true, false, false, false, false, false, false, false, false, false, false] rfl rfl (any_of HT_.out (by kernel_rfl)) (fun _ _ _ h => h) (Or.inl ⟨by rfl, ?_⟩) ?_ ?_
    rotate_left
    ·intro w'
     go_simp
     with_reducible rfl
    rotate_left
    ·simp only [Act.put, List.setIfInBounds_toArray, List.set_cons_zero, List.set_cons_succ, i64_w, i32_w]
     rfl
    refine pure_ (i := 4) (N := some 29) (v := ?_) (a' := ?_) #[true, false, true, false, true, false, false, false, false, false, false, false, false] rfl rfl (any_of HT_.out (by kernel_rfl)) (fun _ _ _ h => h) (Or.inl ⟨by rfl, ?_⟩) ?_ ?_
    rotate_left
    ·intro w'
     go_simp
     with_reducible rfl
    rotate_left
    ·simp only [Act.put, List.setIfInBounds_toArray, List.set_cons_zero, List.set_cons_succ, i64_w, i32_w]
     rfl
    refine pure_ (i := 6) (N := some 31) (v := ?_) (a' := ?_) #[true, false, true, false, true, false, true, false, false, false, false, false, false] rfl rfl (any_of HT_.out (by kernel_rfl)) (fun _ _ _ h => h) (Or.inl ⟨by rfl, ?_⟩) ?_ ?_
    rotate_left
    ·intro w'
     go_simp
     with_reducible rfl
    rotate_left
    ·simp only [Act.put, List.setIfInBounds_toArray, List.set_cons_zero, List.set_cons_succ, i64_w, i32_w]
     rfl
    refine take_ (i := 1) (N := some 26) (v := ?_) (a' := ?_) #[true, true, true, false, true, false, true, false, false, false, false, false, false] rfl rfl (take_ofW HT_.out HW_.out (by kernel_rfl)) (fun _ _ _ h => h) (Or.inl ⟨by rfl, ?_⟩) hHeld ?_ ?_
    rotate_left
    ·rintro w' ⟨s0, s1, s2⟩
     go_simp
     with_reducible rfl
    rotate_left
    ·simp only [Act.put, List.setIfInBounds_toArray, List.set_cons_zero, List.set_cons_succ, i64_w, i32_w]
     rfl
    refine one_ (i := 3) (N := some 28) #[true, true, true, true, true, false, true, false, false, false, false, false, false] rfl rfl (one_of HT_.out (by kernel_rfl)) (by decide) (fun K hK => ?_)
    refine goes_ Try.func81 (by kernel_rfl) rfl #[.pointer (some ⟨g, 0, none⟩), .int .i64 4] (by rfl) rfl rfl y16_ ?_
    with_reducible refine (spec_l1Cur_pick.calls g s0_0 t388 t389 4 t393 t394 t395 w0 _ ?side1 ?side2 A23.out).mono ?_
    (case side1 => repeat (first | (with_reducible first | exact HI0.out | apply IsS95.alloc | apply IsS95.drewN | apply IsS95.drew | apply IsS95.set_1 | apply IsS95.set_2 | refine IsS95.far ?_ NB0_374.out _ | refine IsS95.far ?_ NB0_386.out _) | exact HI0.out))
    (case side2 => repeat (first | (with_reducible first | exact HB.out | apply below_alloc | apply pw_below_drewN | apply below_drew1 | refine below_set ?_ (IsS95.ge HI0.out) | refine below_set ?_ GE374.out | refine below_set ?_ GE386.out) | exact HB.out))
    rintro e w38 ⟨rfl, hi, hb, hk⟩
    refine ⟨_, rfl, ?_⟩
    replace BK374 := am_ (KeepBut.blk hk (g' := gb374) (o := .cells #[.int .i64 0, .slice none 0 0, .int .i64 0] 30 (0, 0)) (bk_ BK374.out) NB374_0.out (by simp))
    replace HO377 := am_ (Kd.R_mono (Kd.R_keep (IsS95.apart (show IsS95 w0 _ g s0_0 t388 t389 from by repeat (first | (with_reducible first | exact HI0.out | apply IsS95.alloc | apply IsS95.drewN | apply IsS95.drew | apply IsS95.set_1 | apply IsS95.set_2 | refine IsS95.far ?_ NB0_374.out _ | refine IsS95.far ?_ NB0_386.out _) | exact HI0.out)) (rq_ HO377.out) (by decide)) hk (fun _ h => h.2)) (fun _ h => h.1))
    replace HO383 := am_ (Kd.R_mono (Kd.R_keep (IsS95.apart (show IsS95 w0 _ g s0_0 t388 t389 from by repeat (first | (with_reducible first | exact HI0.out | apply IsS95.alloc | apply IsS95.drewN | apply IsS95.drew | apply IsS95.set_1 | apply IsS95.set_2 | refine IsS95.far ?_ NB0_374.out _ | refine IsS95.far ?_ NB0_386.out _) | exact HI0.out)) (rq_ HO383.out) (by decide)) hk (fun _ h => h.2)) (fun _ h => h.1))
    replace BK386 := am_ (KeepBut.blk hk (g' := gb386) (o := .cells #[.int .i64 t380, .slice Ao35 t381.length co35, .int .i64 t384] 30 (0, 0)) (bk_ BK386.out) NB386_0.out (by simp))
    replace HK := am_ (KeepBut.trans y5_ hk (.inl rfl))
    replace HB := am_ (hb)
    replace HI0 := am_ (hi)
    (try clear hb)
    (try clear hb2)
    (try clear hk)
    (try clear hi)
    refine hK.out _ _ ⟨(blk_cell BK386.out 0).trans rfl, (blk_cell BK386.out 1).trans rfl, (blk_cell BK386.out 2).trans rfl⟩ (fun hHeld => ?_)
    clear hK K
    refine norm_ (a' := ?_) ?_ ?_
    rotate_left
    ·show Act.put _ (some 28) _ = _
     simp only [Act.put, List.setIfInBounds_toArray, List.set_cons_zero, List.set_cons_succ, i64_w, i32_w]
     rfl
    refine one_ (i := 5) (N := some 30) #[true, true, true, true, true, true, true, false, false, false, false, false, false] rfl rfl (one_of HT_.out (by kernel_rfl)) (by decide) (fun K hK => ?_)
    refine goes_ Try.func81 (by kernel_rfl) rfl #[.pointer (some ⟨g, 0, none⟩), .int .i64 3] (by rfl) rfl rfl y16_ ?_
    with_reducible refine (spec_l1Cur_pick.calls g s0_0 t394 t395 3 t396 t397 t398 w0 _ ?side1 ?side2 A24.out).mono ?_
    (case side1 => repeat (first | (with_reducible first | exact HI0.out | apply IsS95.alloc | apply IsS95.drewN | apply IsS95.drew | apply IsS95.set_1 | apply IsS95.set_2 | refine IsS95.far ?_ NB0_374.out _ | refine IsS95.far ?_ NB0_386.out _) | exact HI0.out))
    (case side2 => repeat (first | (with_reducible first | exact HB.out | apply below_alloc | apply pw_below_drewN | apply below_drew1 | refine below_set ?_ (IsS95.ge HI0.out) | refine below_set ?_ GE374.out | refine below_set ?_ GE386.out) | exact HB.out))
    rintro e w39 ⟨rfl, hi, hb, hk⟩
    refine ⟨_, rfl, ?_⟩
    replace BK374 := am_ (KeepBut.blk hk (g' := gb374) (o := .cells #[.int .i64 0, .slice none 0 0, .int .i64 0] 30 (0, 0)) (bk_ BK374.out) NB374_0.out (by simp))
    replace HO377 := am_ (Kd.R_mono (Kd.R_keep (IsS95.apart (show IsS95 w0 _ g s0_0 t394 t395 from by repeat (first | (with_reducible first | exact HI0.out | apply IsS95.alloc | apply IsS95.drewN | apply IsS95.drew | apply IsS95.set_1 | apply IsS95.set_2 | refine IsS95.far ?_ NB0_374.out _ | refine IsS95.far ?_ NB0_386.out _) | exact HI0.out)) (rq_ HO377.out) (by decide)) hk (fun _ h => h.2)) (fun _ h => h.1))
    replace HO383 := am_ (Kd.R_mono (Kd.R_keep (IsS95.apart (show IsS95 w0 _ g s0_0 t394 t395 from by repeat (first | (with_reducible first | exact HI0.out | apply IsS95.alloc | apply IsS95.drewN | apply IsS95.drew | apply IsS95.set_1 | apply IsS95.set_2 | refine IsS95.far ?_ NB0_374.out _ | refine IsS95.far ?_ NB0_386.out _) | exact HI0.out)) (rq_ HO383.out) (by decide)) hk (fun _ h => h.2)) (fun _ h => h.1))
    replace BK386 := am_ (KeepBut.blk hk (g' := gb386) (o := .cells #[.int .i64 t380, .slice Ao35 t381.length co35, .int .i64 t384] 30 (0, 0)) (bk_ BK386.out) NB386_0.out (by simp))
    replace HK := am_ (KeepBut.trans y5_ hk (.inl rfl))
    replace HB := am_ (hb)
    replace HI0 := am_ (hi)
    (try clear hb)
    (try clear hb2)
    (try clear hk)
    (try clear hi)
    refine hK.out _ _ ⟨(blk_cell BK386.out 0).trans rfl, (blk_cell BK386.out 1).trans rfl, (blk_cell BK386.out 2).trans rfl⟩ (fun hHeld => ?_)
    clear hK K
    refine norm_ (a' := ?_) ?_ ?_
    rotate_left
    ·show Act.put _ (some 30) _ = _
     simp only [Act.put, List.setIfInBounds_toArray, List.set_cons_zero, List.set_cons_succ, i64_w, i32_w]
     rfl
    refine one_ (i := 7) (N := some 32) #[true, true, true, true, true, true, true, true, false, false, false, false, false] rfl rfl (one_of HT_.out (by kernel_rfl)) (by decide) (fun K hK => ?_)
    refine goes_ Try.func81 (by kernel_rfl) rfl #[.pointer (some ⟨g, 0, none⟩), .int .i64 3] (by rfl) rfl rfl y16_ ?_
    with_reducible refine (spec_l1Cur_pick.calls g s0_0 t397 t398 3 t399 t400 t401 w0 _ ?side1 ?side2 A25.out).mono ?_
    (case side1 => repeat (first | (with_reducible first | exact HI0.out | apply IsS95.alloc | apply IsS95.drewN | apply IsS95.drew | apply IsS95.set_1 | apply IsS95.set_2 | refine IsS95.far ?_ NB0_374.out _ | refine IsS95.far ?_ NB0_386.out _) | exact HI0.out))
    (case side2 => repeat (first | (with_reducible first | exact HB.out | apply below_alloc | apply pw_below_drewN | apply below_drew1 | refine below_set ?_ (IsS95.ge HI0.out) | refine below_set ?_ GE374.out | refine below_set ?_ GE386.out) | exact HB.out))
    rintro e w40 ⟨rfl, hi, hb, hk⟩
    refine ⟨_, rfl, ?_⟩
    replace BK374 := am_ (KeepBut.blk hk (g' := gb374) (o := .cells #[.int .i64 0, .slice none 0 0, .int .i64 0] 30 (0, 0)) (bk_ BK374.out) NB374_0.out (by simp))
    replace HO377 := am_ (Kd.R_mono (Kd.R_keep (IsS95.apart (show IsS95 w0 _ g s0_0 t397 t398 from by repeat (first | (with_reducible first | exact HI0.out | apply IsS95.alloc | apply IsS95.drewN | apply IsS95.drew | apply IsS95.set_1 | apply IsS95.set_2 | refine IsS95.far ?_ NB0_374.out _ | refine IsS95.far ?_ NB0_386.out _) | exact HI0.out)) (rq_ HO377.out) (by decide)) hk (fun _ h => h.2)) (fun _ h => h.1))
    replace HO383 := am_ (Kd.R_mono (Kd.R_keep (IsS95.apart (show IsS95 w0 _ g s0_0 t397 t398 from by repeat (first | (with_reducible first | exact HI0.out | apply IsS95.alloc | apply IsS95.drewN | apply IsS95.drew | apply IsS95.set_1 | apply IsS95.set_2 | refine IsS95.far ?_ NB0_374.out _ | refine IsS95.far ?_ NB0_386.out _) | exact HI0.out)) (rq_ HO383.out) (by decide)) hk (fun _ h => h.2)) (fun _ h => h.1))
    replace BK386 := am_ (KeepBut.blk hk (g' := gb386) (o := .cells #[.int .i64 t380, .slice Ao35 t381.length co35, .int .i64 t384] 30 (0, 0)) (bk_ BK386.out) NB386_0.out (by simp))
    replace HK := am_ (KeepBut.trans y5_ hk (.inl rfl))
    replace HB := am_ (hb)
    replace HI0 := am_ (hi)
    (try clear hb)
    (try clear hb2)
    (try clear hk)
    (try clear hi)
    refine hK.out _ _ ⟨(blk_cell BK386.out 0).trans rfl, (blk_cell BK386.out 1).trans rfl, (blk_cell BK386.out 2).trans rfl⟩ (fun hHeld => ?_)
    clear hK K
    refine norm_ (a' := ?_) ?_ ?_
    rotate_left
    ·show Act.put _ (some 32) _ = _
     simp only [Act.put, List.setIfInBounds_toArray, List.set_cons_zero, List.set_cons_succ, i64_w, i32_w]
     rfl
    refine pure_ (i := 8) (N := some 33) (v := ?_) (a' := ?_) #[true, true, true, true, true, true, true, true, true, false, false, false, false] rfl rfl (any_of HT_.out (by kernel_rfl)) (fun _ _ _ h => h) (Or.inl ⟨by rfl, ?_⟩) ?_ ?_
    rotate_left
    ·intro w'
     go_simp
     with_reducible rfl
    rotate_left
    ·simp only [Act.put, List.setIfInBounds_toArray, List.set_cons_zero, List.set_cons_succ, i64_w, i32_w]
     rfl
    refine one_ (i := 9) (N := some 34) #[true, true, true, true, true, true, true, true, true, true, false, false, false] rfl rfl (one_of HT_.out (by kernel_rfl)) (by decide) (fun K hK => ?_)
    refine value_ (w1 := ?_) (v := ?_) (by rfl) rfl ?_ ?_
    rotate_left 2
    ·go_simp
     constructor
     ·rfl
     ·rfl
    refine hK.out _ _ ⟨(blk_cell (blk_alloc BK386.out _) 0).trans rfl, (blk_cell (blk_alloc BK386.out _) 1).trans rfl, (blk_cell (blk_alloc BK386.out _) 2).trans rfl⟩ (fun hHeld => ?_)
    clear hK K
    refine norm_ (a' := ?_) ?_ ?_
    rotate_left
    ·show Act.put _ (some 34) _ = _
     simp only [Act.put, List.setIfInBounds_toArray, List.set_cons_zero, List.set_cons_succ, i64_w, i32_w]
     rfl
    refine one_ (i := 10) (N := some 35) #[true, true, true, true, true, true, true, true, true, true, true, false, false] rfl rfl (one_of HT_.out (by kernel_rfl)) (by decide) (fun K hK => ?_)
    refine Kd.R_append_step k75 w.heap.size (by rfl) (.tmp 26) (.tmp 34) 28 75 (.agg #[(.int .i64 0), (.int .i64 0), (.int .i64 0)]) 24 rfl Try.underlying28 info75 rfl (by decide) (by omega) (.slice Ao35 t381.length co35) t381 (⟨t393, t396, t399⟩ : S75) [.int .i64 t393, .int .i64 t396, .int .i64 t399] (fun _ => True) (fun _ => False) rfl rfl ?aP (fun _ hk => hk.elim) ?aF ?aO (Below.refl _ _) ?aS ?aL ?_
    (case aP => exact k75_mkM _ _ _ (⟨t393, t396, t399⟩ : S75))
    (case aF => exact (fun _ _ => trivial))
    (case aO => exact (rq_ HO383.out))
    (case aS => exact (keep_size (w := w) (g := g) (row := none) y5_))
    (case aL => have := LMc26.out; omega)
    intro v403 w41 ho hb hg hat
    rw [← Ny402.out] at ho
    have n0_ := am_ (IsS95.grown (by repeat (first | (with_reducible first | exact HI0.out | apply IsS95.alloc | apply IsS95.drewN | apply IsS95.drew | apply IsS95.set_1 | apply IsS95.set_2 | refine IsS95.far ?_ NB0_374.out _ | refine IsS95.far ?_ NB0_386.out _) | exact HI0.out)) hg (IsS95.own_ne HI0.out HO383.out (by decide)))
    have n1_ := am_ (blk_grown (bk_ BK374.out) hg (Kd.R_ne HO383.out BK374.out (by decide)))
    have n2_ := am_ (Kd.R_over' (rq_ HO377.out) (Kd.R_typed (rq_ HO383.out)) (by decide) hg)
    have n3_ := am_ (blk_grown (bk_ BK386.out) hg (Kd.R_ne HO383.out BK386.out (by decide)))
    have n4_ := am_ (below_weaken (by repeat (first | (with_reducible first | exact HB.out | apply below_alloc | apply pw_below_drewN | apply below_drew1 | refine below_set ?_ (IsS95.ge HI0.out) | refine below_set ?_ GE374.out | refine below_set ?_ GE386.out) | exact HB.out)) HL.out hb)
    have n5_ := am_ (KeepBut.trans y5_ (KeepBut.of_grown hg g) (Kd.R_base2 HO383.out))
    have n6_ := am_ (ho)
    clear HI0 BK374 HO377 BK386 HB HK HO383
    have HI0 := n0_
    have BK374 := n1_
    have HO377 := n2_
    have BK386 := n3_
    have HB := n4_
    have HK := n5_
    have HO404 := n6_
    clear n0_ n1_ n2_ n3_ n4_ n5_ n6_ ho hb hg hat
    obtain ⟨Ao42, co42, eo42⟩ := Kd.R_slice HO404.out
    (first | subst eo42 | (injection eo42 with f1_ f2_ f3_; have f4_ := f1_.symm; have f5_ := f3_.symm; clear f1_ f2_ f3_; subst f4_; subst f5_))
    refine hK.out _ _ ⟨(blk_cell BK386.out 0).trans rfl, (blk_cell BK386.out 1).trans rfl, (blk_cell BK386.out 2).trans rfl⟩ (fun hHeld => ?_)
    clear hK K
    refine norm_ (a' := ?_) ?_ ?_
    rotate_left
    ·show Act.put _ (some 35) _ = _
     simp only [Act.put, List.setIfInBounds_toArray, List.set_cons_zero, List.set_cons_succ, i64_w, i32_w]
     rfl
    refine pure_ (i := 11) (N := some 36) (v := ?_) (a' := ?_) #[true, true, true, true, true, true, true, true, true, true, true, true, false] rfl rfl (any_of HT_.out (by kernel_rfl)) (fun _ _ _ h => h) (Or.inl ⟨by rfl, ?_⟩) ?_ ?_
    rotate_left
    ·intro w'
     go_simp
     with_reducible rfl
    rotate_left
    ·simp only [Act.put, List.setIfInBounds_toArray, List.set_cons_zero, List.set_cons_succ, i64_w, i32_w]
     rfl
    refine last_ (i := 12) (N := none) #[true, true, true, true, true, true, true, true, true, true, true, true, true] rfl rfl (one_of HT_.out (by kernel_rfl)) (by decide) (fun K hK => ?_)
    have hs43 : w41.cell? ⟨gb386, 1, none⟩ = some (.slice Ao35 t381.length co35) := (blk_cell BK386.out 1).trans rfl
    have hfs43 := blk_frozen BK386.out 1
    have hns43_0 := NB374_386.out
    have hms43_0 := NB386_374.out
    refine skip_ (w1 := ?_) (by rfl) rfl ?_ ?_
    rotate_left
    ·go_simp
     rfl
    refine hK.out _ _ ?_
    clear hK K
    refine done_ (done_of HT_.out (by kernel_rfl)) ?_
    have hcz44_0 := cq_ BK386.out 0 (.int .i64 t380)
    have hcz44_1 := cq_ BK386.out 1 (.slice Ao35 t381.length co35)
    have hcz44_2 := cq_ BK386.out 2 (.int .i64 t384)
    have hfz44_0 := blk_frozen BK386.out 0
    have hfz44_1 := blk_frozen BK386.out 1
    have hfz44_2 := blk_frozen BK386.out 2
    have hnb45 := NB374_0.out
    have hnc45 := NB0_374.out
    have hcz46_0 := cq_ BK374.out 0 (.int .i64 0)
    have hcz46_1 := cq_ BK374.out 1 (.slice none 0 0)
    have hcz46_2 := cq_ BK374.out 2 (.int .i64 0)
    have hfz46_0 := blk_frozen BK374.out 0
    have hfz46_1 := blk_frozen BK374.out 1
    have hfz46_2 := blk_frozen BK374.out 2
    try go_wp2
    refine bodyPost_ret (results_cell_row rfl _ _ gb374 30 #[.int .i64 t380, .slice Ao42 y402.length co42, .int .i64 t384] (0, 0) _ rfl (bu_ BK374.out) Try.underlying30 rfl (by kernel_rfl)) rfl ?_
    exact ⟨_, by first | rfl | (simp [errW_none, errW_some] <;> rfl) | (simp [*, errW_none, errW_some] <;> rfl), rq_ (Kd.R_mono (Kd.R_far (p := ⟨gb374, 2, none⟩) (Kd.R_far (p := ⟨gb374, 1, none⟩) (Kd.R_far (p := ⟨gb374, 0, none⟩) (Kd.R_far (p := ⟨gb386, 1, none⟩) (Kd.R_types (Kd.R_types HO404.out BK386.out (by decide)) BK374.out (by decide)) (fun _ hk => hk.1.2) (.slice Ao42 y402.length co42)) (fun _ hk => hk.2) (.int .i64 t380)) (fun _ hk => hk.2) (.slice Ao42 y402.length co42)) (fun _ hk => hk.2) (.int .i64 t384)) (fun _ hk => trivial)), by repeat (first | (with_reducible first | exact HI0.out | apply IsS95.alloc | apply IsS95.drewN | apply IsS95.drew | apply IsS95.set_1 | apply IsS95.set_2 | refine IsS95.far ?_ NB0_374.out _ | refine IsS95.far ?_ NB0_386.out _) | exact HI0.out), by repeat (first | (with_reducible first | exact HB.out | apply below_alloc | apply pw_below_drewN | apply below_drew1 | refine below_set ?_ (IsS95.ge HI0.out) | refine below_set ?_ GE374.out | refine below_set ?_ GE386.out) | exact HB.out), by repeat (first | (with_reducible first | exact HK.out | apply KeepBut.set_ | apply keep_drewN | apply keep_drew | apply keep_alloc | refine keep_far ?_ GW374.out _ | refine keep_far ?_ GW386.out _) | exact HK.out)⟩
   ·rw [if_neg c26] at H
    exact absurd H (by simp)
  ·rw [if_neg c22] at H
   have c22b0 : (t387 == 1) = false := beq_eq_false_iff_ne.mpr c22
   have c22b1 : (t387 != 1) = true := bne_iff_ne.mpr c22
   simp only [Option.some.injEq, Prod.mk.injEq] at H
   obtain ⟨rfl, rfl, rfl, rfl, rfl⟩ := H
   go_enter Try.func86, Try.ntmps86
   go_wp2_with (first | ((with_reducible refine gate_dst (N := 4) rfl ?_); refine boxq_ (N := 4) (cs := #[.int .i64 0, .slice none 0 0, .int .i64 0]) (t := 30) ?_; intro gb374 hg w47 hbox hb; replace HB := am_ (below_step y12_ hb); have BK374 := am_ (hbox); have GW374 := am_ ((y6_ : w.heap.size ≤ gb374)); have GE374 := am_ ((Nat.le_trans HW0.out (y6_ : w.heap.size ≤ gb374) : w0.heap.size ≤ gb374)); replace HK := am_ (KeepBut.trans y14_ (KeepBut.of_below hb g none) (.inl rfl)); have NB0_374 := am_ ((y2_ : g ≠ gb374)); have NB374_0 := am_ ((y3_ : gb374 ≠ g)); replace HI0 := am_ (IsS95.below y13_ hb); clear hb hbox hg) | ((with_reducible refine gl_ 83 rfl ?_); refine goesM_ (some 11) Try.func83 #[.pointer (some ⟨g, 0, none⟩), .int .i64 a1] ?_; (with_reducible refine (spec_l1Cur_table.calls k g s0_0 s0_1 s0_2 a1 t375 t378 t379 w0 _ ?side1 ?side2 A3.out).mono ?_); (case side1 => repeat (first | (with_reducible first | exact HI0.out | apply IsS95.alloc | apply IsS95.drewN | apply IsS95.drew | apply IsS95.set_1 | apply IsS95.set_2 | refine IsS95.far ?_ NB0_374.out _) | exact HI0.out)); (case side2 => repeat (first | (with_reducible first | exact HB.out | apply below_alloc | apply pw_below_drewN | apply below_drew1 | refine below_set ?_ (IsS95.ge HI0.out) | refine below_set ?_ GE374.out) | exact HB.out)); rintro e w48 ⟨v376, rfl, ho0, hi, hb, hk⟩; refine ⟨_, rfl, ?_⟩; replace BK374 := am_ (KeepBut.blk hk (g' := gb374) (o := .cells #[.int .i64 0, .slice none 0 0, .int .i64 0] 30 (0, 0)) (bk_ BK374.out) NB374_0.out (by simp)); have HO377 := am_ (Kd.R_lower ho0 (keep_size (w := w) (g := g) (row := none) y11_)); replace HK := am_ (KeepBut.trans y11_ hk (.inl rfl)); replace HB := am_ (hb); replace HI0 := am_ (hi); (try clear hb); (try clear hk); (try clear hi); (try clear ho0); obtain ⟨Ao49, co49, eo49⟩ := Kd.R_slice HO377.out; subst eo49) | ((with_reducible refine gl_ 41 rfl ?_); refine goesM_ (some 12) Try.func41 #[.int .i64 a1, .slice Ao49 t375.length co49] ?_; (with_reducible refine (spec_DiagramOf.calls k a1 _ _ t375 t380 t381 t384 t385 _ ?side1 ?side2 A4.out).mono ?_); (case side1 => exact cm_ (Kd.R_reads' HO377.out).2.2); (case side2 => exact (Kd.R_reads' HO377.out).2.1); rintro e w50 ⟨v382, rfl, ho0, hb⟩; refine ⟨_, rfl, ?_⟩; replace HO377 := am_ (Kd.R_below (rq_ HO377.out) hb); have HO383 := am_ (Kd.R_lower ho0 (keep_size (w := w) (g := g) (row := none) y11_)); replace BK374 := bb_ BK374 hb; replace HK := am_ (KeepBut.trans y11_ (KeepBut.of_below hb g none) (.inl rfl)); replace HB := am_ (below_step y8_ hb); replace HI0 := am_ (IsS95.below y7_ hb); (try clear hb); (try clear hk); (try clear hi); (try clear ho0)) | ((with_reducible refine gate_dst (N := 5) rfl ?_); refine boxq_ (N := 5) (cs := #[.int .i64 0, .slice none 0 0, .int .i64 0]) (t := 30) ?_; intro gb386 hg w51 hbox hb; replace HO377 := am_ (Kd.R_below (rq_ HO377.out) hb); replace HO383 := am_ (Kd.R_below (rq_ HO383.out) hb); replace HB := am_ (below_step y8_ hb); have BK386 := am_ (hbox); have GW386 := am_ ((y4_ : w.heap.size ≤ gb386)); have GE386 := am_ ((Nat.le_trans HW0.out (y4_ : w.heap.size ≤ gb386) : w0.heap.size ≤ gb386)); replace HK := am_ (KeepBut.trans y11_ (KeepBut.of_below hb g none) (.inl rfl)); have NB374_386 := nl_ BK374 hg; have NB386_374 := nr_ BK374 hg; replace BK374 := bb_ BK374 hb; have NB0_386 := am_ ((y0_ : g ≠ gb386)); have NB386_0 := am_ ((y1_ : gb386 ≠ g)); replace HI0 := am_ (IsS95.below y7_ hb); clear hb hbox hg; have hnb52 := NB386_374.out; have hnc52 := NB374_386.out; have hnb53 := NB386_0.out; have hnc53 := NB0_386.out; have hcz54_0 := cq_ BK386.out 0 (.int .i64 0); have hcz54_1 := cq_ BK386.out 1 (.slice none 0 0); have hcz54_2 := cq_ BK386.out 2 (.int .i64 0); have hfz54_0 := blk_frozen BK386.out 0; have hfz54_1 := blk_frozen BK386.out 1; have hfz54_2 := blk_frozen BK386.out 2; obtain ⟨Ao55, co55, eo55⟩ := Kd.R_slice HO383.out; subst eo55) | ((with_reducible refine gl_ 81 rfl ?_); refine goesM_ (some 16) Try.func81 #[.pointer (some ⟨g, 0, none⟩), .int .i64 20] ?_; (with_reducible refine (spec_l1Cur_pick.calls g s0_0 t378 t379 20 t387 t388 t389 w0 _ ?side1 ?side2 A5.out).mono ?_); (case side1 => repeat (first | (with_reducible first | exact HI0.out | apply IsS95.alloc | apply IsS95.drewN | apply IsS95.drew | apply IsS95.set_1 | apply IsS95.set_2 | refine IsS95.far ?_ NB0_374.out _ | refine IsS95.far ?_ NB0_386.out _) | exact HI0.out)); (case side2 => repeat (first | (with_reducible first | exact HB.out | apply below_alloc | apply pw_below_drewN | apply below_drew1 | refine below_set ?_ (IsS95.ge HI0.out) | refine below_set ?_ GE374.out | refine below_set ?_ GE386.out) | exact HB.out)); rintro e w56 ⟨rfl, hi, hb, hk⟩; refine ⟨_, rfl, ?_⟩; replace BK374 := am_ (KeepBut.blk hk (g' := gb374) (o := .cells #[.int .i64 0, .slice none 0 0, .int .i64 0] 30 (0, 0)) (bu_ BK374.out) NB374_0.out (by simp)); replace HO377 := am_ (Kd.R_mono (Kd.R_keep (IsS95.apart (show IsS95 w0 _ g s0_0 t378 t379 from by repeat (first | (with_reducible first | exact HI0.out | apply IsS95.alloc | apply IsS95.drewN | apply IsS95.drew | apply IsS95.set_1 | apply IsS95.set_2 | refine IsS95.far ?_ NB0_374.out _ | refine IsS95.far ?_ NB0_386.out _) | exact HI0.out)) (rg_ HO377 BK386) (by decide)) hk (fun _ h => h.2)) (fun _ h => h.1)); replace HO383 := am_ (Kd.R_mono (Kd.R_keep (IsS95.apart (show IsS95 w0 _ g s0_0 t378 t379 from by repeat (first | (with_reducible first | exact HI0.out | apply IsS95.alloc | apply IsS95.drewN | apply IsS95.drew | apply IsS95.set_1 | apply IsS95.set_2 | refine IsS95.far ?_ NB0_374.out _ | refine IsS95.far ?_ NB0_386.out _) | exact HI0.out)) (rg_ HO383 BK386) (by decide)) hk (fun _ h => h.2)) (fun _ h => h.1)); replace BK386 := am_ (KeepBut.blk hk (g' := gb386) (o := .cells #[.int .i64 t380, .slice Ao55 t381.length co55, .int .i64 t384] 30 (0, 0)) (bu_ BK386.out) NB386_0.out (by simp)); replace HK := am_ (KeepBut.trans y5_ hk (.inl rfl)); replace HB := am_ (hb); replace HI0 := am_ (hi); (try clear hb); (try clear hk); (try clear hi); have hcz57_0 := cq_ BK386.out 0 (.int .i64 t380); have hcz57_1 := cq_ BK386.out 1 (.slice Ao55 t381.length co55); have hcz57_2 := cq_ BK386.out 2 (.int .i64 t384); have hfz57_0 := blk_frozen BK386.out 0; have hfz57_1 := blk_frozen BK386.out 1; have hfz57_2 := blk_frozen BK386.out 2; have hnb58 := NB374_0.out; have hnc58 := NB0_374.out; have hcz59_0 := cq_ BK374.out 0 (.int .i64 0); have hcz59_1 := cq_ BK374.out 1 (.slice none 0 0); have hcz59_2 := cq_ BK374.out 2 (.int .i64 0); have hfz59_0 := blk_frozen BK374.out 0; have hfz59_1 := blk_frozen BK374.out 1; have hfz59_2 := blk_frozen BK374.out 2))
   refine bodyPost_ret (results_cell_row rfl _ _ gb374 30 #[.int .i64 t380, .slice Ao55 t381.length co55, .int .i64 t384] (0, 0) _ rfl (bu_ BK374.out) Try.underlying30 rfl (by kernel_rfl)) rfl ?_
   exact ⟨_, by first | rfl | (simp [errW_none, errW_some] <;> rfl) | (simp [*, errW_none, errW_some] <;> rfl), rq_ (Kd.R_mono (Kd.R_far (p := ⟨gb374, 2, none⟩) (Kd.R_far (p := ⟨gb374, 1, none⟩) (Kd.R_far (p := ⟨gb374, 0, none⟩) (Kd.R_types HO383.out BK374.out (by decide)) (fun _ hk => hk.2) (.int .i64 t380)) (fun _ hk => hk.2) (.slice Ao55 t381.length co55)) (fun _ hk => hk.2) (.int .i64 t384)) (fun _ hk => trivial)), by repeat (first | (with_reducible first | exact HI0.out | apply IsS95.alloc | apply IsS95.drewN | apply IsS95.drew | apply IsS95.set_1 | apply IsS95.set_2 | refine IsS95.far ?_ NB0_374.out _ | refine IsS95.far ?_ NB0_386.out _) | exact HI0.out), by repeat (first | (with_reducible first | exact HB.out | apply below_alloc | apply pw_below_drewN | apply below_drew1 | refine below_set ?_ (IsS95.ge HI0.out) | refine below_set ?_ GE374.out | refine below_set ?_ GE386.out) | exact HB.out), by repeat (first | (with_reducible first | exact HK.out | apply KeepBut.set_ | apply keep_drewN | apply keep_drew | apply keep_alloc | refine keep_far ?_ GW374.out _ | refine keep_far ?_ GW386.out _) | exact HK.out)⟩
end Go.Proofs.Ytpndhlcbfobelaa.PDX
