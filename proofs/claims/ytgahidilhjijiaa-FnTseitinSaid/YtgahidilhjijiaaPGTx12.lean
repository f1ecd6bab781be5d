import Derived.Test.YtgahidilhjijiaaPGTx0
import Derived.Test.YtgahidilhjijiaaPGTx2
import Derived.Test.YtgahidilhjijiaaPGTx3
import Derived.Test.YtgahidilhjijiaaPGTx4
import Derived.Test.YtgahidilhjijiaaPGTx5
import Derived.Test.YtgahidilhjijiaaPGTx6
import Derived.Test.YtgahidilhjijiaaPGTx7
import Derived.Test.YtgahidilhjijiaaPGTx9
import Derived.Test.YtgahidilhjijiaaPGTx10
import Derived.Test.YtgahidilhjijiaaPGTx11
namespace Go.Proofs.Ytgahidilhjijiaa.PGT
open Go.RowKit Go.Proofs.YtgahidilhjijiaaW.PrintWords Go.Proofs.YtgahidilhjijiaaW.PrintLast Go.Proofs.YtgahidilhjijiaaW.PrintMore
attribute [local go_sem] max2_int min2_int max_two min_two max_three min_three max_four min_four   -- for this text's walks alone
set_option linter.unusedVariables false
set_option linter.unusedSimpArgs false
mutual
def laws_FnTseitin.j0 : Nat → List Int → List (S69) → List (List Int) → Bool → Bool → Bool → Bool → Option (Bool)
 | 0, _, _, _, _, _, _, _ => none
 | k + 1, x1, x5, x6, x7, x10, x12, x94 => if x94 = true then (some false) else (if x7 = true then ((impl_InputsOf.f k x5).bind fun bt580 => ((impl_CountModels.f k (x5.length : Int) x6).bind fun bt584 => (if x12 = true then (if bt580.2 = true then (laws_FnTseitin.j1 k x1 x5 x6 x10 bt580.1 bt584.1 (!bt584.2)) else (laws_FnTseitin.j1 k x1 x5 x6 x10 bt580.1 bt584.1 true)) else (laws_FnTseitin.j1 k x1 x5 x6 x10 bt580.1 bt584.1 true)))) else ((spec_DrawAlwaysSame.f k x1).bind fun bt614 => ((impl_AlwaysSame.f k bt614.1 bt614.2).bind fun bt620 => ((spec_AlwaysSame.f k bt614.1 bt614.2).bind fun bt622 => (if (bt620.2 == bt622.2) = true then (some (bt620.1 == bt622.1)) else (some false))))))
def laws_FnTseitin.j1 : Nat → List Int → List (S69) → List (List Int) → Bool → List Int → Int → Bool → Option (Bool)
 | 0, _, _, _, _, _, _, _ => none
 | k + 1, x1, x5, x6, x10, x16, x18, x117 => if x117 = true then (some false) else (laws_FnTseitin.l0 k x1 x5 x6 x10 x16 x18 0 0)
def laws_FnTseitin.l0 : Nat → List Int → List (S69) → List (List Int) → Bool → List Int → Int → Int → Int → Option (Bool)
 | 0, _, _, _, _, _, _, _, _ => none
 | k + 1, x1, x5, x6, x10, x16, x18, x20, x21 => if 0 ≤ (IntKind.u64.wrap ((x16.length : Int))) then (if x21 < (shl .i64 1 (IntKind.u64.wrap ((x16.length : Int)))) then ((laws_modelOf.f k (x16.length : Int) x21).bind fun t586 => ((impl_EvalGates.f k x5 t586).bind fun bt589 => (if bt589.2 = true then (if (bt589.1.length : Int) = (x5.length : Int) then (laws_FnTseitin.j3 k x1 x5 x6 x10 x16 x18 x20 x21 bt589.1 ((x5.length : Int) == 0)) else (laws_FnTseitin.j3 k x1 x5 x6 x10 x16 x18 x20 x21 bt589.1 true)) else (laws_FnTseitin.j3 k x1 x5 x6 x10 x16 x18 x20 x21 bt589.1 true)))) else (if x18 = x20 then (laws_FnTseitin.j4 k x1 (x10 != (decide (x20 > 0)))) else (laws_FnTseitin.j4 k x1 true))) else (none)
def laws_FnTseitin.j3 : Nat → List Int → List (S69) → List (List Int) → Bool → List Int → Int → Int → Int → List Bool → Bool → Option (Bool)
 | 0, _, _, _, _, _, _, _, _, _, _ => none
 | k + 1, x1, x5, x6, x10, x16, x18, x20, x21, x22, x148 => if x148 = true then (some false) else (if 0 ≤ (wrap64 ((x5.length : Int) - 1)) then (if (wrap64 ((x5.length : Int) - 1)) < (x22.length : Int) then (if rdOf false x22 (wrap64 ((x5.length : Int) - 1)) = true then ((impl_HoldsAll.f k (x5.length : Int) x6 x22).bind fun bt594 => ((impl_InputsBy.f k x5 x22).bind fun bt596 => (if bt594.2 = true then (if bt594.1 = true then (if bt596.2 = true then ((laws_modelOf.f k (x16.length : Int) x21).bind fun t600 => ((laws_sameBools.f k bt596.1 t600).bind fun t603 => (if t603 = true then (laws_FnTseitin.l0 k x1 x5 x6 x10 x16 x18 (wrap64 (x20 + 1)) (wrap64 (x21 + 1))) else (some false)))) else (some false)) else (some false)) else (some false)))) else (laws_FnTseitin.l0 k x1 x5 x6 x10 x16 x18 x20 (wrap64 (x21 + 1)))) else (none)) else (none))
def laws_FnTseitin.j4 : Nat → List Int → Bool → Option (Bool)
 | 0, _, _ => none
 | k + 1, x1, x198 => if x198 = true then (some false) else ((spec_DrawAlwaysSame.f k x1).bind fun bt604 => ((impl_AlwaysSame.f k bt604.1 bt604.2).bind fun bt610 => ((spec_AlwaysSame.f k bt604.1 bt604.2).bind fun bt612 => (if (bt610.2 == bt612.2) = true then (some (bt610.1 == bt612.1)) else (some false)))))
end
def laws_FnTseitin.f (k : Nat) (l0 : List Int) (l1 : List Int) : Option (Bool) := if (wrap64 ((l0.length : Int) + (l1.length : Int))) > 1048576 then (some true) else ((spec_DrawClausesOf.f k l0).bind fun t556 => ((impl_ClausesOf.f k t556).bind fun bt559 => ((spec_ClausesOf.f k t556).bind fun bt563 => ((impl_CanBe.f k t556).bind fun bt567 => ((spec_CanBe.f k t556).bind fun bt572 => (if (bt559.2 != bt563.2) = true then (laws_FnTseitin.j0 k l1 t556 bt559.1 bt559.2 bt567.1 bt567.2.2 true) else ((laws_sameRows.f k bt559.1 bt563.1).bind fun t577 => (if t577 = true then (if (bt567.2.2 != bt572.2.2) = true then (laws_FnTseitin.j0 k l1 t556 bt559.1 bt559.2 bt567.1 bt567.2.2 true) else (if (bt567.1 != bt572.1) = true then (laws_FnTseitin.j0 k l1 t556 bt559.1 bt559.2 bt567.1 bt567.2.2 true) else ((laws_sameBools.f k bt567.2.1 bt572.2.1).bind fun t578 => (if t578 = true then ((impl_GoodGates.f k t556).bind fun t579 => (laws_FnTseitin.j0 k l1 t556 bt559.1 bt559.2 bt567.1 bt567.2.2 (t579 != bt559.2))) else (laws_FnTseitin.j0 k l1 t556 bt559.1 bt559.2 bt567.1 bt567.2.2 true))))) else (laws_FnTseitin.j0 k l1 t556 bt559.1 bt559.2 bt567.1 bt567.2.2 true)))))))))
theorem laws_FnTseitin.j0_no_6 {k : Nat} {y0 : List Int} {y1 : List (S69)} {y2 : List (List Int)} {y3 : Bool} {y4 : Bool} {y5 : Bool} (h : laws_FnTseitin.j0 k y0 y1 y2 y3 y4 y5 true = some true) : False := by
 cases k <;> simp [laws_FnTseitin.j0] at h
theorem laws_FnTseitin.j1_no_6 {k : Nat} {y0 : List Int} {y1 : List (S69)} {y2 : List (List Int)} {y3 : Bool} {y4 : List Int} {y5 : Int} (h : laws_FnTseitin.j1 k y0 y1 y2 y3 y4 y5 true = some true) : False := by
 cases k <;> simp [laws_FnTseitin.j1] at h
theorem laws_FnTseitin.j3_no_9 {k : Nat} {y0 : List Int} {y1 : List (S69)} {y2 : List (List Int)} {y3 : Bool} {y4 : List Int} {y5 : Int} {y6 : Int} {y7 : Int} {y8 : List Bool} (h : laws_FnTseitin.j3 k y0 y1 y2 y3 y4 y5 y6 y7 y8 true = some true) : False := by
 cases k <;> simp [laws_FnTseitin.j3] at h
theorem laws_FnTseitin.j4_no_1 {k : Nat} {y0 : List Int} (h : laws_FnTseitin.j4 k y0 true = some true) : False := by
 cases k <;> simp [laws_FnTseitin.j4] at h
set_option maxHeartbeats 8000000 in
set_option maxRecDepth 100000 in
theorem laws_FnTseitin.calls (k : Nat) (A0 : Option Addr) (c0 : Nat) (l0 : List Int) (A1 : Option Addr) (c1 : Nat) (l1 : List Int) (r : Bool) (w : World) (hr0 : Kd.C (Kd.int .u8) w A0 l0.length l0) (hc0 : l0.length ≤ c0) (hr1 : Kd.C (Kd.int .u8) w A1 l1.length l1) (hc1 : l1.length ≤ c1) (hr_ : Aside0 (r = true)) (h : laws_FnTseitin.f k l0 l1 = some r) :
  Calls Try.prog 6 #[.slice A0 l0.length c0, .slice A1 l1.length c1] w fun e w' => e = .returned (.bool r) ∧ Below w.heap.size w w' := by
 have HR0 := am_ hr0
 have HC0 := am_ hc0
 clear hr0 hc0
 have HR1 := am_ hr1
 have HC1 := am_ hc1
 clear hr1 hc1
 have HB := am_ (Below.refl w.heap.size w)
 have H : (if (wrap64 ((l0.length : Int) + (l1.length : Int))) > 1048576 then (some true) else ((spec_DrawClausesOf.f k l0).bind fun t556 => ((impl_ClausesOf.f k t556).bind fun bt559 => ((spec_ClausesOf.f k t556).bind fun bt563 => ((impl_CanBe.f k t556).bind fun bt567 => ((spec_CanBe.f k t556).bind fun bt572 => (if (bt559.2 != bt563.2) = true then (laws_FnTseitin.j0 k l1 t556 bt559.1 bt559.2 bt567.1 bt567.2.2 true) else ((laws_sameRows.f k bt559.1 bt563.1).bind fun t577 => (if t577 = true then (if (bt567.2.2 != bt572.2.2) = true then (laws_FnTseitin.j0 k l1 t556 bt559.1 bt559.2 bt567.1 bt567.2.2 true) else (if (bt567.1 != bt572.1) = true then (laws_FnTseitin.j0 k l1 t556 bt559.1 bt559.2 bt567.1 bt567.2.2 true) else ((laws_sameBools.f k bt567.2.1 bt572.2.1).bind fun t578 => (if t578 = true then ((impl_GoodGates.f k t556).bind fun t579 => (laws_FnTseitin.j0 k l1 t556 bt559.1 bt559.2 bt567.1 bt567.2.2 (t579 != bt559.2))) else (laws_FnTseitin.j0 k l1 t556 bt559.1 bt559.2 bt567.1 bt567.2.2 true))))) else (laws_FnTseitin.j0 k l1 t556 bt559.1 bt559.2 bt567.1 bt567.2.2 true)))))))))) = some r := h
 clear h
 by_cases c3 : (wrap64 ((l0.length : Int) + (l1.length : Int))) > 1048576
 ·rw [if_pos c3] at H
  have c3b0 : decide (1048576 < (wrap64 ((l0.length : Int) + (l1.length : Int)))) = true := decide_eq_true c3
  clear c3
  obtain rfl := Option.some.inj H
  go_enter Try.func6, Try.ntmps6
  go_wp2
  go_ret
  exact ⟨by first | rfl | (simp [errW_none, errW_some] <;> rfl) | (simp [*, errW_none, errW_some] <;> rfl), bq_⟩
 ·rw [if_neg c3] at H
  have c3b0 : decide (1048576 < (wrap64 ((l0.length : Int) + (l1.length : Int)))) = false := decide_eq_false c3
  clear c3
  replace H := Option.bind_eq_some_iff.mp H
  obtain ⟨t556, A40, H⟩ := H
  replace H : ((impl_ClausesOf.f k t556).bind fun bt559 => ((spec_ClausesOf.f k t556).bind fun bt563 => ((impl_CanBe.f k t556).bind fun bt567 => ((spec_CanBe.f k t556).bind fun bt572 => (if (bt559.2 != bt563.2) = true then (laws_FnTseitin.j0 k l1 t556 bt559.1 bt559.2 bt567.1 bt567.2.2 true) else ((laws_sameRows.f k bt559.1 bt563.1).bind fun t577 => (if t577 = true then (if (bt567.2.2 != bt572.2.2) = true then (laws_FnTseitin.j0 k l1 t556 bt559.1 bt559.2 bt567.1 bt567.2.2 true) else (if (bt567.1 != bt572.1) = true then (laws_FnTseitin.j0 k l1 t556 bt559.1 bt559.2 bt567.1 bt567.2.2 true) else ((laws_sameBools.f k bt567.2.1 bt572.2.1).bind fun t578 => (if t578 = true then ((impl_GoodGates.f k t556).bind fun t579 => (laws_FnTseitin.j0 k l1 t556 bt559.1 bt559.2 bt567.1 bt567.2.2 (t579 != bt559.2))) else (laws_FnTseitin.j0 k l1 t556 bt559.1 bt559.2 bt567.1 bt567.2.2 true))))) else (laws_FnTseitin.j0 k l1 t556 bt559.1 bt559.2 bt567.1 bt567.2.2 true)))))))) = some r := H
  have A4 := am_ A40
  clear A40
  replace H := Option.bind_eq_some_iff.mp H
  obtain ⟨⟨t559, t562⟩, A50, H⟩ := H
  replace H : ((spec_ClausesOf.f k t556).bind fun bt563 => ((impl_CanBe.f k t556).bind fun bt567 => ((spec_CanBe.f k t556).bind fun bt572 => (if (t562 != bt563.2) = true then (laws_FnTseitin.j0 k l1 t556 t559 t562 bt567.1 bt567.2.2 true) else ((laws_sameRows.f k t559 bt563.1).bind fun t577 => (if t577 = true then (if (bt567.2.2 != bt572.2.2) = true then (laws_FnTseitin.j0 k l1 t556 t559 t562 bt567.1 bt567.2.2 true) else (if (bt567.1 != bt572.1) = true then (laws_FnTseitin.j0 k l1 t556 t559 t562 bt567.1 bt567.2.2 true) else ((laws_sameBools.f k bt567.2.1 bt572.2.1).bind fun t578 => (if t578 = true then ((impl_GoodGates.f k t556).bind fun t579 => (laws_FnTseitin.j0 k l1 t556 t559 t562 bt567.1 bt567.2.2 (t579 != t562))) else (laws_FnTseitin.j0 k l1 t556 t559 t562 bt567.1 bt567.2.2 true))))) else (laws_FnTseitin.j0 k l1 t556 t559 t562 bt567.1 bt567.2.2 true))))))) = some r := H
  have A5 := am_ A50
  clear A50
  replace H := Option.bind_eq_some_iff.mp H
  obtain ⟨⟨t563, t566⟩, A60, H⟩ := H
  replace H : ((impl_CanBe.f k t556).bind fun bt567 => ((spec_CanBe.f k t556).bind fun bt572 => (if (t562 != t566) = true then (laws_FnTseitin.j0 k l1 t556 t559 t562 bt567.1 bt567.2.2 true) else ((laws_sameRows.f k t559 t563).bind fun t577 => (if t577 = true then (if (bt567.2.2 != bt572.2.2) = true then (laws_FnTseitin.j0 k l1 t556 t559 t562 bt567.1 bt567.2.2 true) else (if (bt567.1 != bt572.1) = true then (laws_FnTseitin.j0 k l1 t556 t559 t562 bt567.1 bt567.2.2 true) else ((laws_sameBools.f k bt567.2.1 bt572.2.1).bind fun t578 => (if t578 = true then ((impl_GoodGates.f k t556).bind fun t579 => (laws_FnTseitin.j0 k l1 t556 t559 t562 bt567.1 bt567.2.2 (t579 != t562))) else (laws_FnTseitin.j0 k l1 t556 t559 t562 bt567.1 bt567.2.2 true))))) else (laws_FnTseitin.j0 k l1 t556 t559 t562 bt567.1 bt567.2.2 true)))))) = some r := H
  have A6 := am_ A60
  clear A60
  replace H := Option.bind_eq_some_iff.mp H
  obtain ⟨⟨t567, t568, t569⟩, A70, H⟩ := H
  replace H : ((spec_CanBe.f k t556).bind fun bt572 => (if (t562 != t566) = true then (laws_FnTseitin.j0 k l1 t556 t559 t562 t567 t569 true) else ((laws_sameRows.f k t559 t563).bind fun t577 => (if t577 = true then (if (t569 != bt572.2.2) = true then (laws_FnTseitin.j0 k l1 t556 t559 t562 t567 t569 true) else (if (t567 != bt572.1) = true then (laws_FnTseitin.j0 k l1 t556 t559 t562 t567 t569 true) else ((laws_sameBools.f k t568 bt572.2.1).bind fun t578 => (if t578 = true then ((impl_GoodGates.f k t556).bind fun t579 => (laws_FnTseitin.j0 k l1 t556 t559 t562 t567 t569 (t579 != t562))) else (laws_FnTseitin.j0 k l1 t556 t559 t562 t567 t569 true))))) else (laws_FnTseitin.j0 k l1 t556 t559 t562 t567 t569 true))))) = some r := H
  have A7 := am_ A70
  clear A70
  replace H := Option.bind_eq_some_iff.mp H
  obtain ⟨⟨t572, t573, t574⟩, A80, H⟩ := H
  replace H : (if (t562 != t566) = true then (laws_FnTseitin.j0 k l1 t556 t559 t562 t567 t569 true) else ((laws_sameRows.f k t559 t563).bind fun t577 => (if t577 = true then (if (t569 != t574) = true then (laws_FnTseitin.j0 k l1 t556 t559 t562 t567 t569 true) else (if (t567 != t572) = true then (laws_FnTseitin.j0 k l1 t556 t559 t562 t567 t569 true) else ((laws_sameBools.f k t568 t573).bind fun t578 => (if t578 = true then ((impl_GoodGates.f k t556).bind fun t579 => (laws_FnTseitin.j0 k l1 t556 t559 t562 t567 t569 (t579 != t562))) else (laws_FnTseitin.j0 k l1 t556 t559 t562 t567 t569 true))))) else (laws_FnTseitin.j0 k l1 t556 t559 t562 t567 t569 true)))) = some r := H
  have A8 := am_ A80
  clear A80
  have HC9 := am_ H
  clear H
  go_enter Try.func6, Try.ntmps6
  go_upto_region 8 with (first | ((with_reducible refine gl_ 32 rfl ?_); refine goesM_ (some 41) Try.func32 #[.slice A0 l0.length c0] ?_; (with_reducible refine (spec_DrawClausesOf.calls k _ _ l0 t556 _ ?side1 ?side2 A4.out).mono ?_); (case side1 => exact cm_ HR0.out); (case side2 => exact HC0.out); rintro e w10 ⟨v557, rfl, ho0, hb⟩; refine ⟨_, rfl, ?_⟩; have HO558 := am_ (Kd.R_lower ho0 (below_size (bq_))); replace HB := bs_ hb; (try clear hb); (try clear ho0); obtain ⟨Ao11, co11, eo11⟩ := Kd.R_slice HO558.out; subst eo11) | ((with_reducible refine gl_ 17 rfl ?_); refine goesM_ (some 44) Try.func17 #[.slice Ao11 t556.length co11] ?_; (with_reducible refine (impl_ClausesOf.calls k _ _ t556 t559 t562 _ ?side1 ?side2 A5.out).mono ?_); (case side1 => exact cm_ (Kd.R_reads' HO558.out).2.2); (case side2 => exact (Kd.R_reads' HO558.out).2.1); rintro e w12 ⟨v560, rfl, ho0, hb⟩; refine ⟨_, rfl, ?_⟩; have HO561 := am_ (Kd.N_lower (Kd.N_mono (ok' := fun k_ => some k_ ≠ (.slice Ao11 t556.length co11 : Value).ownBlock) ho0 (fun k_ hk_ => (Kd.fresh' (Kd.R_lt (rq_ HO558.out)) k_ hk_))) (below_size (bq_))); replace HO558 := am_ (Kd.R_below (rq_ HO558.out) hb); replace HB := bs_ hb; (try clear hb); (try clear ho0)) | ((with_reducible refine gl_ 16 rfl ?_); refine goesM_ (some 49) Try.func16 #[.slice Ao11 t556.length co11] ?_; (with_reducible refine (spec_ClausesOf.calls k _ _ t556 t563 t566 _ ?side1 ?side2 A6.out).mono ?_); (case side1 => exact cm_ (Kd.R_reads' HO558.out).2.2); (case side2 => exact (Kd.R_reads' HO558.out).2.1); rintro e w13 ⟨v564, rfl, ho0, hb⟩; refine ⟨_, rfl, ?_⟩; have HO565 := am_ (Kd.N_lower (Kd.N_mono (ok' := fun k_ => some k_ ≠ (.slice Ao11 t556.length co11 : Value).ownBlock ∧ some k_ ≠ (v560 : Value).ownBlock) ho0 (fun k_ hk_ => ⟨(Kd.fresh' (Kd.R_lt (rq_ HO558.out)) k_ hk_), (Kd.fresh' (Kd.N_lt y43_) k_ hk_)⟩)) (below_size (bq_))); replace HO558 := am_ (Kd.R_below (rq_ HO558.out) hb); replace HO561 := am_ (Kd.N_elder' y43_ (Kd.N_base ho0) hb); replace HB := bs_ hb; (try clear hb); (try clear ho0)) | ((with_reducible refine gl_ 25 rfl ?_); refine goesM_ (some 54) Try.func25 #[.slice Ao11 t556.length co11] ?_; (with_reducible refine (impl_CanBe.calls k _ _ t556 t567 t568 t569 _ ?side1 ?side2 A7.out).mono ?_); (case side1 => exact cm_ (Kd.R_reads' HO558.out).2.2); (case side2 => exact (Kd.R_reads' HO558.out).2.1); rintro e w14 ⟨v570, rfl, ho0, hb⟩; refine ⟨_, rfl, ?_⟩; replace HO558 := am_ (Kd.R_below (rq_ HO558.out) hb); replace HO561 := am_ (Kd.N_elder' y43_ (Kd.R_base ho0) hb); replace HO565 := am_ (Kd.N_elder' y44_ (Kd.R_base ho0) hb); have HO571 := am_ (Kd.R_lower ho0 (below_size (bq_))); replace HB := bs_ hb; (try clear hb); (try clear ho0)) | ((with_reducible refine gl_ 33 rfl ?_); refine goesM_ (some 60) Try.func33 #[.slice Ao11 t556.length co11] ?_; (with_reducible refine (spec_CanBe.calls k _ _ t556 t572 t573 t574 _ ?side1 ?side2 A8.out).mono ?_); (case side1 => exact cm_ (Kd.R_reads' HO558.out).2.2); (case side2 => exact (Kd.R_reads' HO558.out).2.1); rintro e w15 ⟨v575, rfl, ho0, hb⟩; refine ⟨_, rfl, ?_⟩; replace HO558 := am_ (Kd.R_below (rq_ HO558.out) hb); replace HO561 := am_ (Kd.N_elder' y43_ (Kd.R_base ho0) hb); replace HO565 := am_ (Kd.N_elder' y44_ (Kd.R_base ho0) hb); have HO576 := am_ (Kd.R_lower (Kd.R_new' ho0 (Kd.R_lt (rq_ HO571.out))) (below_size (bq_))); replace HO571 := am_ (Kd.R_elder' (rq_ HO571.out) (Kd.R_base ho0) hb); replace HB := bs_ hb; (try clear hb); (try clear ho0)))
  (try simp only [Act.put, List.setIfInBounds_toArray, List.set_cons_zero, List.set_cons_succ])
  go_cut [94] (fun v94 wc => ∃ (kq : Nat) (x94_8 : Bool), v94 = .bool x94_8 ∧ Aside0 (laws_FnTseitin.j0 kq l1 t556 t559 t562 t567 t569 x94_8 = some r) ∧ Aside0 (kq ≤ k) ∧ Aside0 (Kd.R k69 69 wc w.heap.size (fun _ => True) (.slice Ao11 t556.length co11) t556) ∧ Aside0 (Kd.N (Kd.slice 3 (Kd.int .i64)) 43 wc w.heap.size (fun k_ => some k_ ≠ ((.slice Ao11 t556.length co11) : Value).ownBlock) v560 t559) ∧ Aside0 (Below w.heap.size w wc))
  case first =>
   have H := HC9.out
   clear HC9
   by_cases c16 : (t562 != t566) = true
   ·rw [if_pos c16] at H
    have c16b0 : (t562 != t566) = true := c16
    (try (have c16b1 : decide (t562 = t566) = false := by simpa using c16))
    (try (have c16b2 : (t562 == t566) = false := by simpa using c16))
    (try (have c16b3 : ¬ (t562 = t566) := by simpa using c16))
    clear c16
    (first | rw [c16b0] | (simp only [i64_w, i32_w]; rw [c16b0]) | skip)
    exact (laws_FnTseitin.j0_no_6 y55_).elim
   ·rw [if_neg c16] at H
    have c16b0 : (t562 != t566) = false := by simpa using c16
    (try (have c16b1 : decide (t562 = t566) = true := by simpa using c16))
    (try (have c16b2 : (t562 == t566) = true := by simpa using c16))
    clear c16
    (first | rw [c16b0] | (simp only [i64_w, i32_w]; rw [c16b0]) | skip)
    replace H := Option.bind_eq_some_iff.mp H
    obtain ⟨t577, A170, H⟩ := H
    replace H : (if t577 = true then (if (t569 != t574) = true then (laws_FnTseitin.j0 k l1 t556 t559 t562 t567 t569 true) else (if (t567 != t572) = true then (laws_FnTseitin.j0 k l1 t556 t559 t562 t567 t569 true) else ((laws_sameBools.f k t568 t573).bind fun t578 => (if t578 = true then ((impl_GoodGates.f k t556).bind fun t579 => (laws_FnTseitin.j0 k l1 t556 t559 t562 t567 t569 (t579 != t562))) else (laws_FnTseitin.j0 k l1 t556 t559 t562 t567 t569 true))))) else (laws_FnTseitin.j0 k l1 t556 t559 t562 t567 t569 true)) = some r := H
    have A17 := am_ A170
    clear A170
    by_cases c18 : t577 = true
    ·subst c18
     have H1 : (if (t569 != t574) = true then (laws_FnTseitin.j0 k l1 t556 t559 t562 t567 t569 true) else (if (t567 != t572) = true then (laws_FnTseitin.j0 k l1 t556 t559 t562 t567 t569 true) else ((laws_sameBools.f k t568 t573).bind fun t578 => (if t578 = true then ((impl_GoodGates.f k t556).bind fun t579 => (laws_FnTseitin.j0 k l1 t556 t559 t562 t567 t569 (t579 != t562))) else (laws_FnTseitin.j0 k l1 t556 t559 t562 t567 t569 true))))) = some r := by rw [if_pos rfl] at H; exact H
     clear H
     have H := H1
     clear H1
     by_cases c19 : (t569 != t574) = true
     ·rw [if_pos c19] at H
      have c19b0 : (t569 != t574) = true := c19
      (try (have c19b1 : decide (t569 = t574) = false := by simpa using c19))
      (try (have c19b2 : (t569 == t574) = false := by simpa using c19))
      (try (have c19b3 : ¬ (t569 = t574) := by simpa using c19))
      clear c19
      exact (laws_FnTseitin.j0_no_6 y55_).elim
     ·rw [if_neg c19] at H
      have c19b0 : (t569 != t574) = false := by simpa using c19
      (try (have c19b1 : decide (t569 = t574) = true := by simpa using c19))
      (try (have c19b2 : (t569 == t574) = true := by simpa using c19))
      clear c19
      by_cases c20 : (t567 != t572) = true
      ·rw [if_pos c20] at H
       have c20b0 : (t567 != t572) = true := c20
       (try (have c20b1 : decide (t567 = t572) = false := by simpa using c20))
       (try (have c20b2 : (t567 == t572) = false := by simpa using c20))
       (try (have c20b3 : ¬ (t567 = t572) := by simpa using c20))
       clear c20
       exact (laws_FnTseitin.j0_no_6 y55_).elim
      ·rw [if_neg c20] at H
       have c20b0 : (t567 != t572) = false := by simpa using c20
       (try (have c20b1 : decide (t567 = t572) = true := by simpa using c20))
       (try (have c20b2 : (t567 == t572) = true := by simpa using c20))
       clear c20
       replace H := Option.bind_eq_some_iff.mp H
       obtain ⟨t578, A210, H⟩ := H
       replace H : (if t578 = true then ((impl_GoodGates.f k t556).bind fun t579 => (laws_FnTseitin.j0 k l1 t556 t559 t562 t567 t569 (t579 != t562))) else (laws_FnTseitin.j0 k l1 t556 t559 t562 t567 t569 true)) = some r := H
       have A21 := am_ A210
       clear A210
       by_cases c22 : t578 = true
       ·subst c22
        have H1 : ((impl_GoodGates.f k t556).bind fun t579 => (laws_FnTseitin.j0 k l1 t556 t559 t562 t567 t569 (t579 != t562))) = some r := by rw [if_pos rfl] at H; exact H
        clear H
        have H := H1
        clear H1
        replace H := Option.bind_eq_some_iff.mp H
        obtain ⟨t579, A230, H⟩ := H
        replace H : (laws_FnTseitin.j0 k l1 t556 t559 t562 t567 t569 (t579 != t562)) = some r := H
        have A23 := am_ A230
        clear A230
        have H' := am_ H
        clear H
        obtain ⟨Ao24, co24, eo24⟩ := Kd.N_slice HO561.out
        subst eo24
        obtain ⟨Ao25, co25, eo25⟩ := Kd.N_slice HO565.out
        subst eo25
        go_wp2_with (first | (go_at_call 31; (with_reducible refine (laws_sameRows.calls k _ _ t559 _ _ t563 true _ ?side1 ?side2 ?side3 ?side4 A17.out).mono ?_); (case side1 => exact cm_ (Kd.N_reads' HO561.out).2.2); (case side2 => exact (Kd.N_reads' HO561.out).2.1); (case side3 => exact cm_ (Kd.N_reads' HO565.out).2.2); (case side4 => exact (Kd.N_reads' HO565.out).2.1); rintro e w' ⟨rfl, ⟨nd, rfl⟩⟩; obtain ⟨Ao26, co26, eo26⟩ := Kd.R_slice HO571.out; subst eo26; obtain ⟨Ao27, co27, eo27⟩ := Kd.R_slice HO576.out; subst eo27) | (go_at_call 21; (with_reducible refine (laws_sameBools.calls k _ _ t568 _ _ t573 true _ ?side1 ?side2 ?side3 ?side4 A21.out).mono ?_); (case side1 => exact cm_ (Kd.R_reads' HO571.out).2.2); (case side2 => exact (Kd.R_reads' HO571.out).2.1); (case side3 => exact cm_ (Kd.R_reads' HO576.out).2.2); (case side4 => exact (Kd.R_reads' HO576.out).2.1); rintro e w' ⟨rfl, ⟨nd, rfl⟩⟩) | (go_at_call 34; (with_reducible refine (impl_GoodGates.calls k _ _ t556 t579 _ ?side1 ?side2 A23.out).mono ?_); (case side1 => exact cm_ (Kd.R_reads' HO558.out).2.2); (case side2 => exact (Kd.R_reads' HO558.out).2.1); rintro e w28 ⟨rfl, hb⟩; replace HO558 := am_ (Kd.R_below (rq_ HO558.out) hb); replace HO561 := am_ (Kd.N_below y43_ hb); replace HO565 := am_ (Kd.N_below y44_ hb); replace HO571 := am_ (Kd.R_below (rq_ HO571.out) hb); replace HO576 := am_ (Kd.R_below (rq_ HO576.out) hb); replace HB := bs_ hb; (try clear hb)))
        go_meet
        case rel => exact ⟨_, ((t579 != t562)), y53_, H', ⟨by first | omega | exact Nat.le_refl _⟩, ⟨rq_ HO558.out⟩, ⟨by (with_reducible repeat (first | apply Kd.N_alloc | apply Kd.N_drewN | apply Kd.N_drew)); exact Kd.N_mono HO561.out (fun _ hk => hk.1.1.1)⟩, ⟨bq_⟩⟩
       ·replace c22 := Bool.eq_false_iff.mpr c22
        subst c22
        have H1 : (laws_FnTseitin.j0 k l1 t556 t559 t562 t567 t569 true) = some r := by rw [if_neg (show ¬ (false = true) by decide)] at H; exact H
        clear H
        have H := H1
        clear H1
        exact (laws_FnTseitin.j0_no_6 y55_).elim
    ·replace c18 := Bool.eq_false_iff.mpr c18
     subst c18
     have H1 : (laws_FnTseitin.j0 k l1 t556 t559 t562 t567 t569 true) = some r := by rw [if_neg (show ¬ (false = true) by decide)] at H; exact H
     clear H
     have H := H1
     clear H1
     exact (laws_FnTseitin.j0_no_6 y55_).elim
  case rest =>
   clear HC9
   try clear c1
   try clear c2
   try clear p2
   try clear c3
   try clear c3b0
   try clear c6
   try clear p6
   try clear c16
   try clear c16b0
   try clear c16b1
   try clear c16b2
   try clear c17
   try clear c18
   try clear c19
   try clear c19b0
   try clear c19b1
   try clear c19b2
   try clear c20
   try clear c20b0
   try clear c20b1
   try clear c20b2
   try clear c22
   try clear c25
   obtain ⟨kq, x94_8, rfl, HA, HJ8, HO_5, HO_6, HB⟩ := hcut
   cases kq with
   | zero => exact absurd HA.out (by simp [laws_FnTseitin.j0])
   | succ kj8 =>
    have H := HA.out
    clear HA
    simp only [laws_FnTseitin.j0] at H
    by_cases c29 : x94_8 = true
    ·subst c29
     have H1 : (some false) = some r := by rw [if_pos rfl] at H; exact H
     clear H
     have H := H1
     clear H1
     exact absurd (Option.some.inj H).symm (by rw [hr_.out]; simp)
    ·replace c29 := Bool.eq_false_iff.mpr c29
     subst c29
     have H1 : (if t562 = true then ((impl_InputsOf.f kj8 t556).bind fun bt580 => ((impl_CountModels.f kj8 (t556.length : Int) t559).bind fun bt584 => (if t569 = true then (if bt580.2 = true then (laws_FnTseitin.j1 kj8 l1 t556 t559 t567 bt580.1 bt584.1 (!bt584.2)) else (laws_FnTseitin.j1 kj8 l1 t556 t559 t567 bt580.1 bt584.1 true)) else (laws_FnTseitin.j1 kj8 l1 t556 t559 t567 bt580.1 bt584.1 true)))) else ((spec_DrawAlwaysSame.f kj8 l1).bind fun bt614 => ((impl_AlwaysSame.f kj8 bt614.1 bt614.2).bind fun bt620 => ((spec_AlwaysSame.f kj8 bt614.1 bt614.2).bind fun bt622 => (if (bt620.2 == bt622.2) = true then (some (bt620.1 == bt622.1)) else (some false)))))) = some r := by rw [if_neg (show ¬ (false = true) by decide)] at H; exact H
     clear H
     have H := H1
     clear H1
     by_cases c30 : t562 = true
     ·subst c30
      have H1 : ((impl_InputsOf.f kj8 t556).bind fun bt580 => ((impl_CountModels.f kj8 (t556.length : Int) t559).bind fun bt584 => (if t569 = true then (if bt580.2 = true then (laws_FnTseitin.j1 kj8 l1 t556 t559 t567 bt580.1 bt584.1 (!bt584.2)) else (laws_FnTseitin.j1 kj8 l1 t556 t559 t567 bt580.1 bt584.1 true)) else (laws_FnTseitin.j1 kj8 l1 t556 t559 t567 bt580.1 bt584.1 true)))) = some r := by rw [if_pos rfl] at H; exact H
      clear H
      have H := H1
      clear H1
      replace H := Option.bind_eq_some_iff.mp H
      obtain ⟨⟨t580, t581⟩, A310, H⟩ := H
      replace H : ((impl_CountModels.f kj8 (t556.length : Int) t559).bind fun bt584 => (if t569 = true then (if t581 = true then (laws_FnTseitin.j1 kj8 l1 t556 t559 t567 t580 bt584.1 (!bt584.2)) else (laws_FnTseitin.j1 kj8 l1 t556 t559 t567 t580 bt584.1 true)) else (laws_FnTseitin.j1 kj8 l1 t556 t559 t567 t580 bt584.1 true))) = some r := H
      have A31 := am_ A310
      clear A310
      replace H := Option.bind_eq_some_iff.mp H
      obtain ⟨⟨t584, t585⟩, A320, H⟩ := H
      replace H : (if t569 = true then (if t581 = true then (laws_FnTseitin.j1 kj8 l1 t556 t559 t567 t580 t584 (!t585)) else (laws_FnTseitin.j1 kj8 l1 t556 t559 t567 t580 t584 true)) else (laws_FnTseitin.j1 kj8 l1 t556 t559 t567 t580 t584 true)) = some r := H
      have A32 := am_ A320
      clear A320
      have HC33 := am_ H
      clear H
      go_upto_region 13 with (first | ((with_reducible refine gl_ 22 rfl ?_); refine goesM_ (some 98) Try.func22 #[.slice Ao11 t556.length co11] ?_; (with_reducible refine (impl_InputsOf.calls kj8 _ _ t556 t580 t581 _ ?side1 ?side2 A31.out).mono ?_); (case side1 => exact cm_ (Kd.R_reads' HO_5.out).2.2); (case side2 => exact (Kd.R_reads' HO_5.out).2.1); rintro e w34 ⟨v582, rfl, ho0, hb⟩; refine ⟨_, rfl, ?_⟩; replace HO_5 := am_ (Kd.R_below (rq_ HO_5.out) hb); replace HO_6 := am_ (Kd.N_elder' y46_ (Kd.R_base ho0) hb); have HO583 := am_ (Kd.R_lower ho0 (below_size (bq_))); replace HB := bs_ hb; (try clear hb); (try clear ho0); obtain ⟨Ao35, co35, eo35⟩ := Kd.N_slice HO_6.out; subst eo35) | ((with_reducible refine gl_ 35 rfl ?_); refine goesM_ (some 105) Try.func35 #[.int .i64 (t556.length : Int), .slice Ao35 t559.length co35] ?_; (with_reducible refine (impl_CountModels.calls kj8 (t556.length : Int) _ _ t559 t584 t585 _ ?side1 ?side2 A32.out).mono ?_); (case side1 => exact cm_ (Kd.N_reads' HO_6.out).2.2); (case side2 => exact (Kd.N_reads' HO_6.out).2.1); rintro e w36 ⟨rfl, hb⟩; refine ⟨_, rfl, ?_⟩; replace HO_5 := am_ (Kd.R_below (rq_ HO_5.out) hb); replace HO_6 := am_ (Kd.N_below y46_ hb); replace HO583 := am_ (Kd.R_below (rq_ HO583.out) hb); replace HB := bs_ hb; (try clear hb)))
      (try simp only [Act.put, List.setIfInBounds_toArray, List.set_cons_zero, List.set_cons_succ])
      go_cut [117] (fun v117 wc => ∃ (kq : Nat) (x117_32 : Bool), v117 = .bool x117_32 ∧ Aside0 (laws_FnTseitin.j1 kq l1 t556 t559 t567 t580 t584 x117_32 = some r) ∧ Aside0 (kq ≤ kj8) ∧ Aside0 (Kd.R k69 69 wc w.heap.size (fun _ => True) (.slice Ao11 t556.length co11) t556) ∧ Aside0 (Kd.N (Kd.slice 3 (Kd.int .i64)) 43 wc w.heap.size (fun k_ => some k_ ≠ ((.slice Ao11 t556.length co11) : Value).ownBlock ∧ some k_ ≠ (v582 : Value).ownBlock) (.slice Ao35 t559.length co35) t559) ∧ Aside0 (Kd.R (Kd.int .i64) 3 wc w.heap.size (fun _ => True) v582 t580) ∧ Aside0 (Below w.heap.size w wc))
      case first =>
       have H := HC33.out
       clear HC33
       by_cases c37 : t569 = true
       ·subst c37
        have H1 : (if t581 = true then (laws_FnTseitin.j1 kj8 l1 t556 t559 t567 t580 t584 (!t585)) else (laws_FnTseitin.j1 kj8 l1 t556 t559 t567 t580 t584 true)) = some r := by rw [if_pos rfl] at H; exact H
        clear H
        have H := H1
        clear H1
        by_cases c38 : t581 = true
        ·subst c38
         have H1 : (laws_FnTseitin.j1 kj8 l1 t556 t559 t567 t580 t584 (!t585)) = some r := by rw [if_pos rfl] at H; exact H
         clear H
         have H := H1
         clear H1
         have H' := am_ H
         clear H
         go_wp2
         go_meet
         case rel => exact ⟨_, (!t585), y53_, H', ⟨by have := HJ8.out; first | omega | exact Nat.le_refl _⟩, ⟨rq_ HO_5.out⟩, ⟨by (with_reducible repeat (first | apply Kd.N_alloc | apply Kd.N_drewN | apply Kd.N_drew)); exact HO_6.out⟩, ⟨rq_ HO583.out⟩, ⟨bq_⟩⟩
        ·replace c38 := Bool.eq_false_iff.mpr c38
         subst c38
         have H1 : (laws_FnTseitin.j1 kj8 l1 t556 t559 t567 t580 t584 true) = some r := by rw [if_neg (show ¬ (false = true) by decide)] at H; exact H
         clear H
         have H := H1
         clear H1
         exact (laws_FnTseitin.j1_no_6 y55_).elim
       ·replace c37 := Bool.eq_false_iff.mpr c37
        subst c37
        have H1 : (laws_FnTseitin.j1 kj8 l1 t556 t559 t567 t580 t584 true) = some r := by rw [if_neg (show ¬ (false = true) by decide)] at H; exact H
        clear H
        have H := H1
        clear H1
        exact (laws_FnTseitin.j1_no_6 y55_).elim
      case rest =>
       clear HC33
       try clear c1
       try clear c2
       try clear p2
       try clear c3
       try clear c3b0
       try clear c6
       try clear p6
       try clear c16
       try clear c16b0
       try clear c16b1
       try clear c16b2
       try clear c17
       try clear c18
       try clear c19
       try clear c19b0
       try clear c19b1
       try clear c19b2
       try clear c20
       try clear c20b0
       try clear c20b1
       try clear c20b2
       try clear c22
       try clear c25
       try clear c29
       try clear c30
       try clear c32
       try clear c33
       try clear c35
       try clear c37
       try clear c38
       try clear p2
       try clear p6
       obtain ⟨kq, x117_32, rfl, HA, HJ32, HO_5, HO_6, HO_16, HB⟩ := hcut
       cases kq with
       | zero => exact absurd HA.out (by simp [laws_FnTseitin.j1])
       | succ kj32 =>
        have H := HA.out
        clear HA
        simp only [laws_FnTseitin.j1] at H
        by_cases c39 : x117_32 = true
        ·subst c39
         have H1 : (some false) = some r := by rw [if_pos rfl] at H; exact H
         clear H
         have H := H1
         clear H1
         exact absurd (Option.some.inj H).symm (by rw [hr_.out]; simp)
        ·replace c39 := Bool.eq_false_iff.mpr c39
         subst c39
         have H1 : (laws_FnTseitin.l0 kj32 l1 t556 t559 t567 t580 t584 0 0) = some r := by rw [if_neg (show ¬ (false = true) by decide)] at H; exact H
         clear H
         have H := H1
         clear H1
         have H' := am_ H
         clear H
         go_wp2
         go_loopg [20, 21] kj32 (fun kq v20 v21 w' => ∃ (x20_3 : Int) (x21_3 : Int), v20 = .int .i64 x20_3 ∧ v21 = .int .i64 x21_3 ∧ Aside0 (laws_FnTseitin.l0 kq l1 t556 t559 t567 t580 t584 x20_3 x21_3 = some r) ∧ Aside0 (kq ≤ kj32) ∧ Aside0 (Kd.R k69 69 w' w.heap.size (fun _ => True) (.slice Ao11 t556.length co11) t556) ∧ Aside0 (Kd.N (Kd.slice 3 (Kd.int .i64)) 43 w' w.heap.size (fun k_ => some k_ ≠ ((.slice Ao11 t556.length co11) : Value).ownBlock ∧ some k_ ≠ (v582 : Value).ownBlock) (.slice Ao35 t559.length co35) t559) ∧ Aside0 (Kd.R (Kd.int .i64) 3 w' w.heap.size (fun _ => True) v582 t580) ∧ Aside0 (Below w.heap.size w w'))
         case atStart => exact ⟨(0), (0), y53_, y53_, H', ⟨Nat.le_refl _⟩, ⟨rq_ HO_5.out⟩, ⟨by (with_reducible repeat (first | apply Kd.N_alloc | apply Kd.N_drewN | apply Kd.N_drew)); exact HO_6.out⟩, ⟨rq_ HO_16.out⟩, ⟨bq_⟩⟩
         case round =>
          clear H'
          try clear c1
          try clear c2
          try clear p2
          try clear c3
          try clear c3b0
          try clear c6
          try clear p6
          try clear c16
          try clear c16b0
          try clear c16b1
          try clear c16b2
          try clear c17
          try clear c18
          try clear c19
          try clear c19b0
          try clear c19b1
          try clear c19b2
          try clear c20
          try clear c20b0
          try clear c20b1
          try clear c20b2
          try clear c22
          try clear c25
          try clear c29
          try clear c30
          try clear c32
          try clear c33
          try clear c35
          try clear c37
          try clear c38
          try clear c39
          try clear p2
          try clear p6
          obtain ⟨x20_3, x21_3, rfl, rfl, HA, HK3, HO_5, HO_6, HO_16, HB⟩ := hrel
          cases gk with
          | zero => exact absurd HA.out (by simp [laws_FnTseitin.l0])
          | succ k3 =>
           have H := HA.out
           clear HA
           simp only [laws_FnTseitin.l0] at H
           obtain ⟨ji40, hji40⟩ : ∃ j_ : Int, (IntKind.u64.wrap ((t580.length : Int))) = j_ := ⟨_, rfl⟩
           replace H : (if 0 ≤ (ji40) then (if x21_3 < (shl .i64 1 (ji40)) then ((laws_modelOf.f k3 (t580.length : Int) x21_3).bind fun t586 => ((impl_EvalGates.f k3 t556 t586).bind fun bt589 => (if bt589.2 = true then (if (bt589.1.length : Int) = (t556.length : Int) then (laws_FnTseitin.j3 k3 l1 t556 t559 t567 t580 t584 x20_3 x21_3 bt589.1 ((t556.length : Int) == 0)) else (laws_FnTseitin.j3 k3 l1 t556 t559 t567 t580 t584 x20_3 x21_3 bt589.1 true)) else (laws_FnTseitin.j3 k3 l1 t556 t559 t567 t580 t584 x20_3 x21_3 bt589.1 true)))) else (if t584 = x20_3 then (laws_FnTseitin.j4 k3 l1 (t567 != (decide (x20_3 > 0)))) else (laws_FnTseitin.j4 k3 l1 true))) else (none)) = some r := by first | (rw [hji40] at H; exact H) | (simp only [hji40] at H ⊢; exact H)
           by_cases c41 : 0 ≤ (ji40)
           ·rw [if_pos c41] at H
            have c41b0 := eq_true c41
            have c41b1 : decide (0 ≤ (ji40)) = true := decide_eq_true c41
            clear c41
            obtain ⟨ji42, hji42⟩ : ∃ j_ : Int, (shl .i64 1 (ji40)) = j_ := ⟨_, rfl⟩
            replace H : (if x21_3 < (ji42) then ((laws_modelOf.f k3 (t580.length : Int) x21_3).bind fun t586 => ((impl_EvalGates.f k3 t556 t586).bind fun bt589 => (if bt589.2 = true then (if (bt589.1.length : Int) = (t556.length : Int) then (laws_FnTseitin.j3 k3 l1 t556 t559 t567 t580 t584 x20_3 x21_3 bt589.1 ((t556.length : Int) == 0)) else (laws_FnTseitin.j3 k3 l1 t556 t559 t567 t580 t584 x20_3 x21_3 bt589.1 true)) else (laws_FnTseitin.j3 k3 l1 t556 t559 t567 t580 t584 x20_3 x21_3 bt589.1 true)))) else (if t584 = x20_3 then (laws_FnTseitin.j4 k3 l1 (t567 != (decide (x20_3 > 0)))) else (laws_FnTseitin.j4 k3 l1 true))) = some r := by first | (rw [hji42] at H; exact H) | (simp only [hji42] at H ⊢; exact H)
            have hji42_ : (IntKind.i64.wrap (1 * 2 ^ min (ji40).toNat 64)) = ji42 := hji42
            have hji42z : (ji40) ≤ 64 → (IntKind.i64.wrap (1 * 2 ^ (ji40).toNat)) = ji42 := shl_small hji42
            have hji42u : (IntKind.i64.wrap (2 ^ min (ji40).toNat 64)) = ji42 := by have h_ := hji42_; rw [Int.one_mul] at h_; exact h_
            have hji42v : (ji40) ≤ 64 → (IntKind.i64.wrap (2 ^ (ji40).toNat)) = ji42 := fun hle_ => by have h_ := hji42z hle_; rw [Int.one_mul] at h_; exact h_
            have hji42y : (wrap64 (1 * 2 ^ min (ji40).toNat 64)) = ji42 := (i64_w _).symm.trans hji42_
            have hji42x : (ji40) ≤ 64 → (wrap64 (1 * 2 ^ (ji40).toNat)) = ji42 := fun h_ => (i64_w _).symm.trans (hji42z h_)
            by_cases c43 : x21_3 < (ji42)
            ·rw [if_pos c43] at H
             have c43b0 : decide (x21_3 < (ji42)) = true := decide_eq_true c43
             clear c43
             replace H := Option.bind_eq_some_iff.mp H
             obtain ⟨t586, A440, H⟩ := H
             replace H : ((impl_EvalGates.f k3 t556 t586).bind fun bt589 => (if bt589.2 = true then (if (bt589.1.length : Int) = (t556.length : Int) then (laws_FnTseitin.j3 k3 l1 t556 t559 t567 t580 t584 x20_3 x21_3 bt589.1 ((t556.length : Int) == 0)) else (laws_FnTseitin.j3 k3 l1 t556 t559 t567 t580 t584 x20_3 x21_3 bt589.1 true)) else (laws_FnTseitin.j3 k3 l1 t556 t559 t567 t580 t584 x20_3 x21_3 bt589.1 true))) = some r := H
             have A44 := am_ A440
             clear A440
             replace H := Option.bind_eq_some_iff.mp H
             obtain ⟨⟨t589, t590⟩, A450, H⟩ := H
             replace H : (if t590 = true then (if (t589.length : Int) = (t556.length : Int) then (laws_FnTseitin.j3 k3 l1 t556 t559 t567 t580 t584 x20_3 x21_3 t589 ((t556.length : Int) == 0)) else (laws_FnTseitin.j3 k3 l1 t556 t559 t567 t580 t584 x20_3 x21_3 t589 true)) else (laws_FnTseitin.j3 k3 l1 t556 t559 t567 t580 t584 x20_3 x21_3 t589 true)) = some r := H
             have A45 := am_ A450
             clear A450
             have HC46 := am_ H
             clear H
             obtain ⟨Ao47, co47, eo47⟩ := Kd.R_slice HO_16.out
             subst eo47
             go_upto_region 20 with (first | ((with_reducible refine gl_ 36 rfl ?_); refine goesM_ (some 131) Try.func36 #[.int .i64 (t580.length : Int), .int .i64 x21_3] ?_; (with_reducible refine (laws_modelOf.calls k3 (t580.length : Int) x21_3 t586 _ A44.out).mono ?_); rintro e w48 ⟨v587, rfl, ho0, hb⟩; refine ⟨_, rfl, ?_⟩; replace HO_5 := am_ (Kd.R_below (rq_ HO_5.out) hb); replace HO_6 := am_ (Kd.N_elder' y46_ (Kd.R_base ho0) hb); replace HO_16 := am_ (Kd.R_below (rq_ HO_16.out) hb); have HO588 := am_ (Kd.R_lower ho0 (below_size (bq_))); replace HB := bs_ hb; (try clear hb); (try clear ho0); obtain ⟨Ao49, co49, eo49⟩ := Kd.R_slice HO588.out; subst eo49) | ((with_reducible refine gl_ 19 rfl ?_); refine goesM_ (some 132) Try.func19 #[.slice Ao11 t556.length co11, .slice Ao49 t586.length co49] ?_; (with_reducible refine (impl_EvalGates.calls k3 _ _ t556 _ _ t586 t589 t590 _ ?side1 ?side2 ?side3 ?side4 A45.out).mono ?_); (case side1 => exact cm_ (Kd.R_reads' HO_5.out).2.2); (case side2 => exact (Kd.R_reads' HO_5.out).2.1); (case side3 => exact cm_ (Kd.R_reads' HO588.out).2.2); (case side4 => exact (Kd.R_reads' HO588.out).2.1); rintro e w50 ⟨v591, rfl, ho0, hb⟩; refine ⟨_, rfl, ?_⟩; replace HO_5 := am_ (Kd.R_below (rq_ HO_5.out) hb); replace HO_6 := am_ (Kd.N_elder' y46_ (Kd.R_base ho0) hb); replace HO_16 := am_ (Kd.R_below (rq_ HO_16.out) hb); have HO592 := am_ (Kd.R_lower (Kd.R_new' ho0 (Kd.R_lt (rq_ HO588.out))) (below_size (bq_))); replace HO588 := am_ (Kd.R_elder' (rq_ HO588.out) (Kd.R_base ho0) hb); replace HB := bs_ hb; (try clear hb); (try clear ho0)))
             (try simp only [Act.put, List.setIfInBounds_toArray, List.set_cons_zero, List.set_cons_succ])
             go_cut [148] (fun v148 wc => ∃ (kq : Nat) (x148_45 : Bool), v148 = .bool x148_45 ∧ Aside0 (laws_FnTseitin.j3 kq l1 t556 t559 t567 t580 t584 x20_3 x21_3 t589 x148_45 = some r) ∧ Aside0 (kq ≤ k3) ∧ Aside0 (Kd.R k69 69 wc w.heap.size (fun _ => True) (.slice Ao11 t556.length co11) t556) ∧ Aside0 (Kd.N (Kd.slice 3 (Kd.int .i64)) 43 wc w.heap.size (fun k_ => some k_ ≠ ((.slice Ao11 t556.length co11) : Value).ownBlock ∧ some k_ ≠ ((.slice Ao47 t580.length co47) : Value).ownBlock ∧ some k_ ≠ (v591 : Value).ownBlock) (.slice Ao35 t559.length co35) t559) ∧ Aside0 (Kd.R (Kd.int .i64) 3 wc w.heap.size (fun _ => True) (.slice Ao47 t580.length co47) t580) ∧ Aside0 (Kd.R Kd.bool 4 wc w.heap.size (fun _ => True) v591 t589) ∧ Aside0 (Below w.heap.size w wc))
             case first =>
              have H := HC46.out
              clear HC46
              by_cases c51 : t590 = true
              ·subst c51
               have H1 : (if (t589.length : Int) = (t556.length : Int) then (laws_FnTseitin.j3 k3 l1 t556 t559 t567 t580 t584 x20_3 x21_3 t589 ((t556.length : Int) == 0)) else (laws_FnTseitin.j3 k3 l1 t556 t559 t567 t580 t584 x20_3 x21_3 t589 true)) = some r := by rw [if_pos rfl] at H; exact H
               clear H
               have H := H1
               clear H1
               by_cases c52 : (t589.length : Int) = (t556.length : Int)
               ·rw [if_pos c52] at H
                have c52b0 : ((t589.length : Int) == (t556.length : Int)) = true := beq_iff_eq.mpr c52
                have c52b1 : ((t589.length : Int) != (t556.length : Int)) = false := bne_eq_false_iff_eq.mpr c52
                have c52b2 : (t589.length == t556.length) = true := by first | simpa using c52 | (simp at c52 ⊢; omega)
                clear c52
                (first | rw [c52b0] | (simp only [i64_w, i32_w]; rw [c52b0]) | skip)
                have H' := am_ H
                clear H
                obtain ⟨Ao53, co53, eo53⟩ := Kd.R_slice HO592.out
                subst eo53
                go_wp2
                go_meet
                case rel => exact ⟨_, (((t556.length : Int) == 0)), y53_, H', ⟨by have := HJ8.out; have := HJ32.out; have := HK3.out; first | omega | exact Nat.le_refl _⟩, ⟨rq_ HO_5.out⟩, ⟨by (with_reducible repeat (first | apply Kd.N_alloc | apply Kd.N_drewN | apply Kd.N_drew)); exact Kd.N_mono HO_6.out (fun _ hk => ⟨hk.1.1.1, ⟨hk.1.1.2, hk.2⟩⟩)⟩, ⟨rq_ HO_16.out⟩, ⟨rq_ (Kd.R_mono HO592.out (fun _ hk => trivial))⟩, ⟨bq_⟩⟩
               ·rw [if_neg c52] at H
                have c52b0 : ((t589.length : Int) == (t556.length : Int)) = false := beq_eq_false_iff_ne.mpr c52
                have c52b1 : ((t589.length : Int) != (t556.length : Int)) = true := bne_iff_ne.mpr c52
                have c52b2 : (t589.length == t556.length) = false := by first | simpa using c52 | (simp at c52 ⊢; omega)
                (first | rw [c52b0] | (simp only [i64_w, i32_w]; rw [c52b0]) | skip)
                exact (laws_FnTseitin.j3_no_9 y55_).elim
              ·replace c51 := Bool.eq_false_iff.mpr c51
               subst c51
               have H1 : (laws_FnTseitin.j3 k3 l1 t556 t559 t567 t580 t584 x20_3 x21_3 t589 true) = some r := by rw [if_neg (show ¬ (false = true) by decide)] at H; exact H
               clear H
               have H := H1
               clear H1
               exact (laws_FnTseitin.j3_no_9 y55_).elim
             case rest =>
              clear HC46
              try clear c1
              try clear c2
              try clear p2
              try clear c3
              try clear c3b0
              try clear c4
              try clear c5
              try clear c6
              try clear p6
              try clear c16
              try clear c16b0
              try clear c16b1
              try clear c16b2
              try clear c17
              try clear c18
              try clear c19
              try clear c19b0
              try clear c19b1
              try clear c19b2
              try clear c20
              try clear c20b0
              try clear c20b1
              try clear c20b2
              try clear c22
              try clear c25
              try clear c29
              try clear c30
              try clear c32
              try clear c33
              try clear c35
              try clear c36
              try clear c37
              try clear c38
              try clear c39
              try clear c41
              try clear c41b0
              try clear c41b1
              try clear c43
              try clear c43b0
              try clear c51
              try clear c52
              try clear c52b0
              try clear c52b1
              try clear c52b2
              try clear p2
              try clear p6
              obtain ⟨kq, x148_45, rfl, HA, HJ45, HO_5, HO_6, HO_16, HO_22, HB⟩ := hcut
              cases kq with
              | zero => exact absurd HA.out (by simp [laws_FnTseitin.j3])
              | succ kj45 =>
               have H := HA.out
               clear HA
               simp only [laws_FnTseitin.j3] at H
               by_cases c54 : x148_45 = true
               ·subst c54
                have H1 : (some false) = some r := by rw [if_pos rfl] at H; exact H
                clear H
                have H := H1
                clear H1
                exact absurd (Option.some.inj H).symm (by rw [hr_.out]; simp)
               ·replace c54 := Bool.eq_false_iff.mpr c54
                subst c54
                have H1 : (if 0 ≤ (wrap64 ((t556.length : Int) - 1)) then (if (wrap64 ((t556.length : Int) - 1)) < (t589.length : Int) then (if rdOf false t589 (wrap64 ((t556.length : Int) - 1)) = true then ((impl_HoldsAll.f kj45 (t556.length : Int) t559 t589).bind fun bt594 => ((impl_InputsBy.f kj45 t556 t589).bind fun bt596 => (if bt594.2 = true then (if bt594.1 = true then (if bt596.2 = true then ((laws_modelOf.f kj45 (t580.length : Int) x21_3).bind fun t600 => ((laws_sameBools.f kj45 bt596.1 t600).bind fun t603 => (if t603 = true then (laws_FnTseitin.l0 kj45 l1 t556 t559 t567 t580 t584 (wrap64 (x20_3 + 1)) (wrap64 (x21_3 + 1))) else (some false)))) else (some false)) else (some false)) else (some false)))) else (laws_FnTseitin.l0 kj45 l1 t556 t559 t567 t580 t584 x20_3 (wrap64 (x21_3 + 1)))) else (none)) else (none)) = some r := by rw [if_neg (show ¬ (false = true) by decide)] at H; exact H
                clear H
                have H := H1
                clear H1
                obtain ⟨ji55, hji55⟩ : ∃ j_ : Int, (wrap64 ((t556.length : Int) - 1)) = j_ := ⟨_, rfl⟩
                replace H : (if 0 ≤ (ji55) then (if (ji55) < (t589.length : Int) then (if rdOf false t589 (ji55) = true then ((impl_HoldsAll.f kj45 (t556.length : Int) t559 t589).bind fun bt594 => ((impl_InputsBy.f kj45 t556 t589).bind fun bt596 => (if bt594.2 = true then (if bt594.1 = true then (if bt596.2 = true then ((laws_modelOf.f kj45 (t580.length : Int) x21_3).bind fun t600 => ((laws_sameBools.f kj45 bt596.1 t600).bind fun t603 => (if t603 = true then (laws_FnTseitin.l0 kj45 l1 t556 t559 t567 t580 t584 (wrap64 (x20_3 + 1)) (wrap64 (x21_3 + 1))) else (some false)))) else (some false)) else (some false)) else (some false)))) else (laws_FnTseitin.l0 kj45 l1 t556 t559 t567 t580 t584 x20_3 (wrap64 (x21_3 + 1)))) else (none)) else (none)) = some r := by first | (rw [hji55] at H; exact H) | (simp only [hji55] at H ⊢; exact H)
                have hji55w : (IntKind.i64.wrap ((t556.length : Int) - 1)) = ji55 := (i64_w _).trans hji55
                by_cases c56 : 0 ≤ (ji55)
                ·rw [if_pos c56] at H
                 have c56b0 : decide (0 ≤ (ji55)) = true := decide_eq_true c56
                 clear c56
                 by_cases c57 : (ji55) < (t589.length : Int)
                 ·rw [if_pos c57] at H
                  have c57b0 : decide ((ji55) < (t589.length : Int)) = true := decide_eq_true c57
                  clear c57
                  obtain ⟨bq58, hbq58⟩ : ∃ b_ : Bool, b_ = (rdOf false t589 (ji55)) := ⟨_, rfl⟩
                  replace H : (if bq58 = true then ((impl_HoldsAll.f kj45 (t556.length : Int) t559 t589).bind fun bt594 => ((impl_InputsBy.f kj45 t556 t589).bind fun bt596 => (if bt594.2 = true then (if bt594.1 = true then (if bt596.2 = true then ((laws_modelOf.f kj45 (t580.length : Int) x21_3).bind fun t600 => ((laws_sameBools.f kj45 bt596.1 t600).bind fun t603 => (if t603 = true then (laws_FnTseitin.l0 kj45 l1 t556 t559 t567 t580 t584 (wrap64 (x20_3 + 1)) (wrap64 (x21_3 + 1))) else (some false)))) else (some false)) else (some false)) else (some false)))) else (laws_FnTseitin.l0 kj45 l1 t556 t559 t567 t580 t584 x20_3 (wrap64 (x21_3 + 1)))) = some r := by rw [← hbq58] at H; exact H
                  have Nbq58 := am_ hbq58
                  clear hbq58
                  by_cases c59 : bq58 = true
                  ·subst c59
                   have H1 : ((impl_HoldsAll.f kj45 (t556.length : Int) t559 t589).bind fun bt594 => ((impl_InputsBy.f kj45 t556 t589).bind fun bt596 => (if bt594.2 = true then (if bt594.1 = true then (if bt596.2 = true then ((laws_modelOf.f kj45 (t580.length : Int) x21_3).bind fun t600 => ((laws_sameBools.f kj45 bt596.1 t600).bind fun t603 => (if t603 = true then (laws_FnTseitin.l0 kj45 l1 t556 t559 t567 t580 t584 (wrap64 (x20_3 + 1)) (wrap64 (x21_3 + 1))) else (some false)))) else (some false)) else (some false)) else (some false)))) = some r := by rw [if_pos rfl] at H; exact H
                   clear H
                   have H := H1
                   clear H1
                   replace H := Option.bind_eq_some_iff.mp H
                   obtain ⟨⟨t594, t595⟩, A600, H⟩ := H
                   replace H : ((impl_InputsBy.f kj45 t556 t589).bind fun bt596 => (if t595 = true then (if t594 = true then (if bt596.2 = true then ((laws_modelOf.f kj45 (t580.length : Int) x21_3).bind fun t600 => ((laws_sameBools.f kj45 bt596.1 t600).bind fun t603 => (if t603 = true then (laws_FnTseitin.l0 kj45 l1 t556 t559 t567 t580 t584 (wrap64 (x20_3 + 1)) (wrap64 (x21_3 + 1))) else (some false)))) else (some false)) else (some false)) else (some false))) = some r := H
                   have A60 := am_ A600
                   clear A600
                   replace H := Option.bind_eq_some_iff.mp H
                   obtain ⟨⟨t596, t597⟩, A610, H⟩ := H
                   replace H : (if t595 = true then (if t594 = true then (if t597 = true then ((laws_modelOf.f kj45 (t580.length : Int) x21_3).bind fun t600 => ((laws_sameBools.f kj45 t596 t600).bind fun t603 => (if t603 = true then (laws_FnTseitin.l0 kj45 l1 t556 t559 t567 t580 t584 (wrap64 (x20_3 + 1)) (wrap64 (x21_3 + 1))) else (some false)))) else (some false)) else (some false)) else (some false)) = some r := H
                   have A61 := am_ A610
                   clear A610
                   by_cases c62 : t595 = true
                   ·subst c62
                    have H1 : (if t594 = true then (if t597 = true then ((laws_modelOf.f kj45 (t580.length : Int) x21_3).bind fun t600 => ((laws_sameBools.f kj45 t596 t600).bind fun t603 => (if t603 = true then (laws_FnTseitin.l0 kj45 l1 t556 t559 t567 t580 t584 (wrap64 (x20_3 + 1)) (wrap64 (x21_3 + 1))) else (some false)))) else (some false)) else (some false)) = some r := by rw [if_pos rfl] at H; exact H
                    clear H
                    have H := H1
                    clear H1
                    by_cases c63 : t594 = true
                    ·subst c63
                     have H1 : (if t597 = true then ((laws_modelOf.f kj45 (t580.length : Int) x21_3).bind fun t600 => ((laws_sameBools.f kj45 t596 t600).bind fun t603 => (if t603 = true then (laws_FnTseitin.l0 kj45 l1 t556 t559 t567 t580 t584 (wrap64 (x20_3 + 1)) (wrap64 (x21_3 + 1))) else (some false)))) else (some false)) = some r := by rw [if_pos rfl] at H; exact H
                     clear H
                     have H := H1
                     clear H1
                     by_cases c64 : t597 = true
                     ·subst c64
                      have H1 : ((laws_modelOf.f kj45 (t580.length : Int) x21_3).bind fun t600 => ((laws_sameBools.f kj45 t596 t600).bind fun t603 => (if t603 = true then (laws_FnTseitin.l0 kj45 l1 t556 t559 t567 t580 t584 (wrap64 (x20_3 + 1)) (wrap64 (x21_3 + 1))) else (some false)))) = some r := by rw [if_pos rfl] at H; exact H
                      clear H
                      have H := H1
                      clear H1
                      replace H := Option.bind_eq_some_iff.mp H
                      obtain ⟨t600, A650, H⟩ := H
                      replace H : ((laws_sameBools.f kj45 t596 t600).bind fun t603 => (if t603 = true then (laws_FnTseitin.l0 kj45 l1 t556 t559 t567 t580 t584 (wrap64 (x20_3 + 1)) (wrap64 (x21_3 + 1))) else (some false))) = some r := H
                      have A65 := am_ A650
                      clear A650
                      replace H := Option.bind_eq_some_iff.mp H
                      obtain ⟨t603, A660, H⟩ := H
                      replace H : (if t603 = true then (laws_FnTseitin.l0 kj45 l1 t556 t559 t567 t580 t584 (wrap64 (x20_3 + 1)) (wrap64 (x21_3 + 1))) else (some false)) = some r := H
                      have A66 := am_ A660
                      clear A660
                      by_cases c67 : t603 = true
                      ·subst c67
                       have H1 : (laws_FnTseitin.l0 kj45 l1 t556 t559 t567 t580 t584 (wrap64 (x20_3 + 1)) (wrap64 (x21_3 + 1))) = some r := by rw [if_pos rfl] at H; exact H
                       clear H
                       have H := H1
                       clear H1
                       have H' := am_ H
                       clear H
                       obtain ⟨Ao68, co68, eo68⟩ := Kd.R_slice HO_22.out
                       subst eo68
                       have p593 : 0 ≤ ((ji55) : Int) := od_
                       have q593 : (ji55) < (t589.length : Int) := od_
                       obtain ⟨ad593, e593, hx593_0⟩ := Kd.at_bool (Kd.R_reads' HO_22.out).2.2 (ji55) p593 q593
                       (try rw [← Nbq58.out] at hx593_0)
                       cases e593
                       replace p593 := eq_true p593
                       replace q593 := eq_true q593
                       go_wp2_with (first | ((with_reducible refine gl_ 37 rfl ?_); refine goesM_ (some 162) Try.func37 #[.int .i64 (t556.length : Int), .slice Ao35 t559.length co35, .slice (some ad593) t589.length co68] ?_; (with_reducible refine (impl_HoldsAll.calls kj45 (t556.length : Int) _ _ t559 _ _ t589 true true _ ?side1 ?side2 ?side3 ?side4 A60.out).mono ?_); (case side1 => exact cm_ (Kd.N_reads' HO_6.out).2.2); (case side2 => exact (Kd.N_reads' HO_6.out).2.1); (case side3 => exact cm_ (Kd.R_reads' HO_22.out).2.2); (case side4 => exact (Kd.R_reads' HO_22.out).2.1); rintro e w69 ⟨rfl, hb⟩; refine ⟨_, rfl, ?_⟩; replace HO_5 := am_ (Kd.R_below (rq_ HO_5.out) hb); replace HO_6 := am_ (Kd.N_below y46_ hb); replace HO_16 := am_ (Kd.R_below (rq_ HO_16.out) hb); replace HO_22 := am_ (Kd.R_below (rq_ HO_22.out) hb); replace HB := bs_ hb; (try clear hb)) | ((with_reducible refine gl_ 29 rfl ?_); refine goesM_ (some 168) Try.func29 #[.slice Ao11 t556.length co11, .slice (some ad593) t589.length co68] ?_; (with_reducible refine (impl_InputsBy.calls kj45 _ _ t556 _ _ t589 t596 true _ ?side1 ?side2 ?side3 ?side4 A61.out).mono ?_); (case side1 => exact cm_ (Kd.R_reads' HO_5.out).2.2); (case side2 => exact (Kd.R_reads' HO_5.out).2.1); (case side3 => exact cm_ (Kd.R_reads' HO_22.out).2.2); (case side4 => exact (Kd.R_reads' HO_22.out).2.1); rintro e w70 ⟨v598, rfl, ho0, hb⟩; refine ⟨_, rfl, ?_⟩; replace HO_5 := am_ (Kd.R_below (rq_ HO_5.out) hb); replace HO_6 := am_ (Kd.N_elder' y46_ (Kd.R_base ho0) hb); replace HO_16 := am_ (Kd.R_below (rq_ HO_16.out) hb); have HO599 := am_ (Kd.R_lower (Kd.R_new' ho0 (Kd.R_lt (rq_ HO_22.out))) (below_size (bq_))); replace HO_22 := am_ (Kd.R_elder' (rq_ HO_22.out) (Kd.R_base ho0) hb); replace HB := bs_ hb; (try clear hb); (try clear ho0)) | (go_at_call 36; (with_reducible refine (laws_modelOf.calls kj45 (t580.length : Int) x21_3 t600 _ A65.out).mono ?_); rintro e w71 ⟨v601, rfl, ho0, hb⟩; replace HO_5 := am_ (Kd.R_below (rq_ HO_5.out) hb); replace HO_6 := am_ (Kd.N_elder' y46_ (Kd.R_base ho0) hb); replace HO_16 := am_ (Kd.R_below (rq_ HO_16.out) hb); have HO602 := am_ (Kd.R_lower (Kd.R_new' (Kd.R_new' ho0 (Kd.R_lt (rq_ HO_22.out))) (Kd.R_lt (rq_ HO599.out))) (below_size (bq_))); replace HO_22 := am_ (Kd.R_elder' (rq_ HO_22.out) (Kd.R_base ho0) hb); replace HO599 := am_ (Kd.R_elder' (rq_ HO599.out) (Kd.R_base ho0) hb); replace HB := bs_ hb; (try clear hb); (try clear ho0); obtain ⟨Ao72, co72, eo72⟩ := Kd.R_slice HO599.out; subst eo72; obtain ⟨Ao73, co73, eo73⟩ := Kd.R_slice HO602.out; subst eo73) | (go_at_call 21; (with_reducible refine (laws_sameBools.calls kj45 _ _ t596 _ _ t600 true _ ?side1 ?side2 ?side3 ?side4 A66.out).mono ?_); (case side1 => exact cm_ (Kd.R_reads' HO599.out).2.2); (case side2 => exact (Kd.R_reads' HO599.out).2.1); (case side3 => exact cm_ (Kd.R_reads' HO602.out).2.2); (case side4 => exact (Kd.R_reads' HO602.out).2.1); rintro e w' ⟨rfl, ⟨nd, rfl⟩⟩))
                       go_roundg kj45
                       case measure => have := HJ8.out; have := HJ32.out; have := HK3.out; have := HJ45.out; omega
                       case rel => exact ⟨(wrap64 (x20_3 + 1)), (wrap64 (x21_3 + 1)), y53_, y53_, H', ⟨by have := HJ8.out; have := HJ32.out; have := HK3.out; have := HJ45.out; omega⟩, ⟨rq_ HO_5.out⟩, ⟨by (with_reducible repeat (first | apply Kd.N_alloc | apply Kd.N_drewN | apply Kd.N_drew)); exact Kd.N_mono HO_6.out (fun _ hk => ⟨hk.1.1.1, hk.1.1.2.1⟩)⟩, ⟨rq_ HO_16.out⟩, ⟨bq_⟩⟩
                      ·replace c67 := Bool.eq_false_iff.mpr c67
                       subst c67
                       have H1 : (some false) = some r := by rw [if_neg (show ¬ (false = true) by decide)] at H; exact H
                       clear H
                       have H := H1
                       clear H1
                       exact absurd (Option.some.inj H).symm (by rw [hr_.out]; simp)
                     ·replace c64 := Bool.eq_false_iff.mpr c64
                      subst c64
                      have H1 : (some false) = some r := by rw [if_neg (show ¬ (false = true) by decide)] at H; exact H
                      clear H
                      have H := H1
                      clear H1
                      exact absurd (Option.some.inj H).symm (by rw [hr_.out]; simp)
                    ·replace c63 := Bool.eq_false_iff.mpr c63
                     subst c63
                     have H1 : (some false) = some r := by rw [if_neg (show ¬ (false = true) by decide)] at H; exact H
                     clear H
                     have H := H1
                     clear H1
                     exact absurd (Option.some.inj H).symm (by rw [hr_.out]; simp)
                   ·replace c62 := Bool.eq_false_iff.mpr c62
                    subst c62
                    have H1 : (some false) = some r := by rw [if_neg (show ¬ (false = true) by decide)] at H; exact H
                    clear H
                    have H := H1
                    clear H1
                    exact absurd (Option.some.inj H).symm (by rw [hr_.out]; simp)
                  ·replace c59 := Bool.eq_false_iff.mpr c59
                   subst c59
                   have H1 : (laws_FnTseitin.l0 kj45 l1 t556 t559 t567 t580 t584 x20_3 (wrap64 (x21_3 + 1))) = some r := by rw [if_neg (show ¬ (false = true) by decide)] at H; exact H
                   clear H
                   have H := H1
                   clear H1
                   have H' := am_ H
                   clear H
                   obtain ⟨Ao74, co74, eo74⟩ := Kd.R_slice HO_22.out
                   subst eo74
                   have p593 : 0 ≤ ((ji55) : Int) := od_
                   have q593 : (ji55) < (t589.length : Int) := od_
                   obtain ⟨ad593, e593, hx593_0⟩ := Kd.at_bool (Kd.R_reads' HO_22.out).2.2 (ji55) p593 q593
                   (try rw [← Nbq58.out] at hx593_0)
                   cases e593
                   replace p593 := eq_true p593
                   replace q593 := eq_true q593
                   go_wp2
                   go_roundg kj45
                   case measure => have := HJ8.out; have := HJ32.out; have := HK3.out; have := HJ45.out; omega
                   case rel => exact ⟨(x20_3), (wrap64 (x21_3 + 1)), y53_, y53_, H', ⟨by have := HJ8.out; have := HJ32.out; have := HK3.out; have := HJ45.out; omega⟩, ⟨rq_ HO_5.out⟩, ⟨by (with_reducible repeat (first | apply Kd.N_alloc | apply Kd.N_drewN | apply Kd.N_drew)); exact Kd.N_mono HO_6.out (fun _ hk => ⟨hk.1, hk.2.1⟩)⟩, ⟨rq_ HO_16.out⟩, ⟨bq_⟩⟩
                 ·rw [if_neg c57] at H
                  exact absurd H (by simp)
                ·rw [if_neg c56] at H
                 exact absurd H (by simp)
            ·rw [if_neg c43] at H
             have c43b0 : decide (x21_3 < (ji42)) = false := decide_eq_false c43
             clear c43
             have HC75 := am_ H
             clear H
             obtain ⟨Ao76, co76, eo76⟩ := Kd.R_slice HO_16.out
             subst eo76
             go_upto_region 28 with (fail)
             go_cut [198] (fun v198 wc => ∃ (kq : Nat) (x198_74 : Bool), v198 = .bool x198_74 ∧ Aside0 (laws_FnTseitin.j4 kq l1 x198_74 = some r) ∧ Aside0 (kq ≤ k3) ∧ Aside0 (Below w.heap.size w wc))
             case first =>
              have H := HC75.out
              clear HC75
              by_cases c77 : t584 = x20_3
              ·rw [if_pos c77] at H
               have c77b0 : (t584 == x20_3) = true := beq_iff_eq.mpr c77
               have c77b1 : (t584 != x20_3) = false := bne_eq_false_iff_eq.mpr c77
               clear c77
               (first | rw [c77b0] | (simp only [i64_w, i32_w]; rw [c77b0]) | skip)
               have H' := am_ H
               clear H
               go_wp2
               go_meet
               case rel => exact ⟨_, ((t567 != (decide (x20_3 > 0)))), y53_, H', ⟨by have := HJ8.out; have := HJ32.out; have := HK3.out; first | omega | exact Nat.le_refl _⟩, ⟨bq_⟩⟩
              ·rw [if_neg c77] at H
               have c77b0 : (t584 == x20_3) = false := beq_eq_false_iff_ne.mpr c77
               have c77b1 : (t584 != x20_3) = true := bne_iff_ne.mpr c77
               (first | rw [c77b0] | (simp only [i64_w, i32_w]; rw [c77b0]) | skip)
               exact (laws_FnTseitin.j4_no_1 y55_).elim
             case rest =>
              clear HC75
              try clear c1
              try clear c2
              try clear p2
              try clear c3
              try clear c3b0
              try clear c4
              try clear c5
              try clear p5
              try clear q5
              try clear hx5
              try clear c6
              try clear p6
              try clear c7
              try clear c16
              try clear c16b0
              try clear c16b1
              try clear c16b2
              try clear c17
              try clear c18
              try clear c19
              try clear c19b0
              try clear c19b1
              try clear c19b2
              try clear c20
              try clear c20b0
              try clear c20b1
              try clear c20b2
              try clear c22
              try clear c25
              try clear c29
              try clear c30
              try clear c32
              try clear c33
              try clear c35
              try clear c36
              try clear c37
              try clear c38
              try clear c39
              try clear c41
              try clear c41b0
              try clear c41b1
              try clear c43
              try clear c43b0
              try clear c51
              try clear c52
              try clear c52b0
              try clear c52b1
              try clear c52b2
              try clear c54
              try clear c56
              try clear c56b0
              try clear c57
              try clear c57b0
              try clear q58
              try clear c59
              try clear p59
              try clear q59
              try clear hx59
              try clear c62
              try clear c63
              try clear c64
              try clear p64
              try clear c67
              try clear c77
              try clear c77b0
              try clear c77b1
              try clear hx593_0
              try clear p2
              try clear p593
              try clear p6
              try clear q593
              obtain ⟨kq, x198_74, rfl, HA, HJ74, HB⟩ := hcut
              cases kq with
              | zero => exact absurd HA.out (by simp [laws_FnTseitin.j4])
              | succ kj74 =>
               have H := HA.out
               clear HA
               simp only [laws_FnTseitin.j4] at H
               by_cases c78 : x198_74 = true
               ·subst c78
                have H1 : (some false) = some r := by rw [if_pos rfl] at H; exact H
                clear H
                have H := H1
                clear H1
                exact absurd (Option.some.inj H).symm (by rw [hr_.out]; simp)
               ·replace c78 := Bool.eq_false_iff.mpr c78
                subst c78
                have H1 : ((spec_DrawAlwaysSame.f kj74 l1).bind fun bt604 => ((impl_AlwaysSame.f kj74 bt604.1 bt604.2).bind fun bt610 => ((spec_AlwaysSame.f kj74 bt604.1 bt604.2).bind fun bt612 => (if (bt610.2 == bt612.2) = true then (some (bt610.1 == bt612.1)) else (some false))))) = some r := by rw [if_neg (show ¬ (false = true) by decide)] at H; exact H
                clear H
                have H := H1
                clear H1
                replace H := Option.bind_eq_some_iff.mp H
                obtain ⟨⟨t604, t605⟩, A790, H⟩ := H
                replace H : ((impl_AlwaysSame.f kj74 t604 t605).bind fun bt610 => ((spec_AlwaysSame.f kj74 t604 t605).bind fun bt612 => (if (bt610.2 == bt612.2) = true then (some (bt610.1 == bt612.1)) else (some false)))) = some r := H
                have A79 := am_ A790
                clear A790
                replace H := Option.bind_eq_some_iff.mp H
                obtain ⟨⟨t610, t611⟩, A800, H⟩ := H
                replace H : ((spec_AlwaysSame.f kj74 t604 t605).bind fun bt612 => (if (t611 == bt612.2) = true then (some (t610 == bt612.1)) else (some false))) = some r := H
                have A80 := am_ A800
                clear A800
                replace H := Option.bind_eq_some_iff.mp H
                obtain ⟨⟨t612, t613⟩, A810, H⟩ := H
                replace H : (if (t611 == t613) = true then (some (t610 == t612)) else (some false)) = some r := H
                have A81 := am_ A810
                clear A810
                by_cases c82 : (t611 == t613) = true
                ·rw [if_pos c82] at H
                 have c82b0 : (t611 == t613) = true := c82
                 (try (have c82b1 : decide (t611 = t613) = true := by simpa using c82))
                 (try (have c82b2 : (t611 == t613) = true := by simpa using c82))
                 clear c82
                 obtain rfl := Option.some.inj H
                 go_wp2_with (first | ((with_reducible refine gl_ 38 rfl ?_); refine goesM_ (some 201) Try.func38 #[.slice A1 l1.length c1] ?_; (with_reducible refine (spec_DrawAlwaysSame.calls kj74 _ _ l1 t604 t605 _ ?side1 ?side2 A79.out).mono ?_); (case side1 => exact cm_ (Kd.C_below HR1.out HB.out)); (case side2 => exact HC1.out); rintro e w83 ⟨v606, v608, rfl, ho0, ho1, hb⟩; refine ⟨_, rfl, ?_⟩; have HO607 := am_ (Kd.R_lower ho0 (below_size (bq_))); have HO609 := am_ (Kd.R_lower ho1 (below_size (bq_))); replace HB := bs_ hb; (try clear hb); (try clear ho0); (try clear ho1); obtain ⟨Ao84, co84, eo84⟩ := Kd.R_slice HO607.out; subst eo84; obtain ⟨Ao85, co85, eo85⟩ := Kd.R_slice HO609.out; subst eo85) | ((with_reducible refine gl_ 39 rfl ?_); refine goesM_ (some 207) Try.func39 #[.slice Ao84 t604.length co84, .slice Ao85 t605.length co85] ?_; (with_reducible refine (impl_AlwaysSame.calls kj74 _ _ t604 _ _ t605 t610 t611 _ ?side1 ?side2 ?side3 ?side4 A80.out).mono ?_); (case side1 => exact cm_ (Kd.R_reads' HO607.out).2.2); (case side2 => exact (Kd.R_reads' HO607.out).2.1); (case side3 => exact cm_ (Kd.R_reads' HO609.out).2.2); (case side4 => exact (Kd.R_reads' HO609.out).2.1); rintro e w86 ⟨rfl, hb⟩; refine ⟨_, rfl, ?_⟩; replace HO607 := am_ (Kd.R_below (rq_ HO607.out) hb); replace HO609 := am_ (Kd.R_below (rq_ HO609.out) hb); replace HB := bs_ hb; (try clear hb)) | ((with_reducible refine gl_ 40 rfl ?_); refine goesM_ (some 213) Try.func40 #[.slice Ao84 t604.length co84, .slice Ao85 t605.length co85] ?_; (with_reducible refine (spec_AlwaysSame.calls kj74 _ _ t604 _ _ t605 t612 t613 _ ?side1 ?side2 ?side3 ?side4 A81.out).mono ?_); (case side1 => exact cm_ (Kd.R_reads' HO607.out).2.2); (case side2 => exact (Kd.R_reads' HO607.out).2.1); (case side3 => exact cm_ (Kd.R_reads' HO609.out).2.2); (case side4 => exact (Kd.R_reads' HO609.out).2.1); rintro e w87 ⟨rfl, hb⟩; refine ⟨_, rfl, ?_⟩; replace HO607 := am_ (Kd.R_below (rq_ HO607.out) hb); replace HO609 := am_ (Kd.R_below (rq_ HO609.out) hb); replace HB := bs_ hb; (try clear hb)))
                 go_ret
                 exact ⟨by first | rfl | (simp [errW_none, errW_some] <;> rfl) | (simp only [← hji40, ← hji42]; first | rfl | (simp [errW_none, errW_some] <;> rfl)) | (simp [*, errW_none, errW_some] <;> rfl), bq_⟩
                ·rw [if_neg c82] at H
                 have c82b0 : (t611 == t613) = false := by simpa using c82
                 (try (have c82b1 : decide (t611 = t613) = false := by simpa using c82))
                 (try (have c82b2 : (t611 == t613) = false := by simpa using c82))
                 (try (have c82b3 : ¬ (t611 = t613) := by simpa using c82))
                 clear c82
                 exact absurd (Option.some.inj H).symm (by rw [hr_.out]; simp)
           ·rw [if_neg c41] at H
            exact absurd H (by simp)
     ·replace c30 := Bool.eq_false_iff.mpr c30
      subst c30
      have H1 : ((spec_DrawAlwaysSame.f kj8 l1).bind fun bt614 => ((impl_AlwaysSame.f kj8 bt614.1 bt614.2).bind fun bt620 => ((spec_AlwaysSame.f kj8 bt614.1 bt614.2).bind fun bt622 => (if (bt620.2 == bt622.2) = true then (some (bt620.1 == bt622.1)) else (some false))))) = some r := by rw [if_neg (show ¬ (false = true) by decide)] at H; exact H
      clear H
      have H := H1
      clear H1
      replace H := Option.bind_eq_some_iff.mp H
      obtain ⟨⟨t614, t615⟩, A880, H⟩ := H
      replace H : ((impl_AlwaysSame.f kj8 t614 t615).bind fun bt620 => ((spec_AlwaysSame.f kj8 t614 t615).bind fun bt622 => (if (bt620.2 == bt622.2) = true then (some (bt620.1 == bt622.1)) else (some false)))) = some r := H
      have A88 := am_ A880
      clear A880
      replace H := Option.bind_eq_some_iff.mp H
      obtain ⟨⟨t620, t621⟩, A890, H⟩ := H
      replace H : ((spec_AlwaysSame.f kj8 t614 t615).bind fun bt622 => (if (t621 == bt622.2) = true then (some (t620 == bt622.1)) else (some false))) = some r := H
      have A89 := am_ A890
      clear A890
      replace H := Option.bind_eq_some_iff.mp H
      obtain ⟨⟨t622, t623⟩, A900, H⟩ := H
      replace H : (if (t621 == t623) = true then (some (t620 == t622)) else (some false)) = some r := H
      have A90 := am_ A900
      clear A900
      by_cases c91 : (t621 == t623) = true
      ·rw [if_pos c91] at H
       have c91b0 : (t621 == t623) = true := c91
       (try (have c91b1 : decide (t621 = t623) = true := by simpa using c91))
       (try (have c91b2 : (t621 == t623) = true := by simpa using c91))
       clear c91
       obtain rfl := Option.some.inj H
       go_wp2_with (first | ((with_reducible refine gl_ 38 rfl ?_); refine goesM_ (some 201) Try.func38 #[.slice A1 l1.length c1] ?_; (with_reducible refine (spec_DrawAlwaysSame.calls kj8 _ _ l1 t614 t615 _ ?side1 ?side2 A88.out).mono ?_); (case side1 => exact cm_ (Kd.C_below HR1.out HB.out)); (case side2 => exact HC1.out); rintro e w92 ⟨v616, v618, rfl, ho0, ho1, hb⟩; refine ⟨_, rfl, ?_⟩; replace HO_6 := am_ (Kd.N_mono (Kd.N_told (Kd.N_told (Kd.N_old y46_ hb) (Kd.R_base ho0)) (Kd.R_base ho1)) (fun _ h_ => h_.1)); have HO617 := am_ (Kd.R_lower (Kd.R_new' ho0 (Kd.R_lt (rq_ HO_5.out))) (below_size (bq_))); have HO619 := am_ (Kd.R_lower (Kd.R_new' ho1 (Kd.R_lt (rq_ HO_5.out))) (below_size (bq_))); replace HO_5 := am_ (Kd.R_mono (Kd.R_told (Kd.R_told (Kd.R_old (rq_ HO_5.out) hb) (Kd.R_base ho0)) (Kd.R_base ho1)) (fun _ h_ => h_.1)); replace HB := bs_ hb; (try clear hb); (try clear ho0); (try clear ho1); obtain ⟨Ao93, co93, eo93⟩ := Kd.R_slice HO617.out; subst eo93; obtain ⟨Ao94, co94, eo94⟩ := Kd.R_slice HO619.out; subst eo94) | ((with_reducible refine gl_ 39 rfl ?_); refine goesM_ (some 207) Try.func39 #[.slice Ao93 t614.length co93, .slice Ao94 t615.length co94] ?_; (with_reducible refine (impl_AlwaysSame.calls kj8 _ _ t614 _ _ t615 t620 t621 _ ?side1 ?side2 ?side3 ?side4 A89.out).mono ?_); (case side1 => exact cm_ (Kd.R_reads' HO617.out).2.2); (case side2 => exact (Kd.R_reads' HO617.out).2.1); (case side3 => exact cm_ (Kd.R_reads' HO619.out).2.2); (case side4 => exact (Kd.R_reads' HO619.out).2.1); rintro e w95 ⟨rfl, hb⟩; refine ⟨_, rfl, ?_⟩; replace HO_5 := am_ (Kd.R_below (rq_ HO_5.out) hb); replace HO_6 := am_ (Kd.N_below y46_ hb); replace HO617 := am_ (Kd.R_below (rq_ HO617.out) hb); replace HO619 := am_ (Kd.R_below (rq_ HO619.out) hb); replace HB := bs_ hb; (try clear hb)) | ((with_reducible refine gl_ 40 rfl ?_); refine goesM_ (some 213) Try.func40 #[.slice Ao93 t614.length co93, .slice Ao94 t615.length co94] ?_; (with_reducible refine (spec_AlwaysSame.calls kj8 _ _ t614 _ _ t615 t622 t623 _ ?side1 ?side2 ?side3 ?side4 A90.out).mono ?_); (case side1 => exact cm_ (Kd.R_reads' HO617.out).2.2); (case side2 => exact (Kd.R_reads' HO617.out).2.1); (case side3 => exact cm_ (Kd.R_reads' HO619.out).2.2); (case side4 => exact (Kd.R_reads' HO619.out).2.1); rintro e w96 ⟨rfl, hb⟩; refine ⟨_, rfl, ?_⟩; replace HO_5 := am_ (Kd.R_below (rq_ HO_5.out) hb); replace HO_6 := am_ (Kd.N_below y46_ hb); replace HO617 := am_ (Kd.R_below (rq_ HO617.out) hb); replace HO619 := am_ (Kd.R_below (rq_ HO619.out) hb); replace HB := bs_ hb; (try clear hb)))
       go_ret
       exact ⟨by first | rfl | (simp [errW_none, errW_some] <;> rfl) | (simp [*, errW_none, errW_some] <;> rfl), bq_⟩
      ·rw [if_neg c91] at H
       have c91b0 : (t621 == t623) = false := by simpa using c91
       (try (have c91b1 : decide (t621 = t623) = false := by simpa using c91))
       (try (have c91b2 : (t621 == t623) = false := by simpa using c91))
       (try (have c91b3 : ¬ (t621 = t623) := by simpa using c91))
       clear c91
       exact absurd (Option.some.inj H).symm (by rw [hr_.out]; simp)
def laws_FnTseitin.Pure : Prop := ∀ (l0 : List Int) (l1 : List Int), l0.length ≤ maxLen → l0.length * 1 ≤ 140737488351232 → (∀ x ∈ l0, (Lit.int .u8 x).wf = true) → l1.length ≤ maxLen → l1.length * 1 ≤ 140737488351232 → (∀ x ∈ l1, (Lit.int .u8 x).wf = true) → ∃ k, laws_FnTseitin.f k l0 l1 = some true
theorem laws_FnTseitin.walk (P : laws_FnTseitin.Pure) (a0 : Option Addr) (len0 cap0 : Nat) (z0 : List Int) (a1 : Option Addr) (len1 cap1 : Nat) (z1 : List Int) (w : World) (w0 : (a0 = none ∧ len0 = 0 ∧ cap0 = 0 ∧ z0 = []) ∨ ∃ x, a0 = some x ∧ len0 ≤ cap0 ∧ cap0 ≤ maxLen ∧ z0.length = cap0 ∧ (∀ i, i < z0.length → w.cell? (x.add i) = some (.int .u8 (z0.getD i 0))) ∧ ∀ n ∈ z0, (Lit.int .u8 n).wf = true) (y0 : len0 * 1 ≤ 140737488351232) (w1 : (a1 = none ∧ len1 = 0 ∧ cap1 = 0 ∧ z1 = []) ∨ ∃ x, a1 = some x ∧ len1 ≤ cap1 ∧ cap1 ≤ maxLen ∧ z1.length = cap1 ∧ (∀ i, i < z1.length → w.cell? (x.add i) = some (.int .u8 (z1.getD i 0))) ∧ ∀ n ∈ z1, (Lit.int .u8 n).wf = true) (y1 : len1 * 1 ≤ 140737488351232) :
  Calls Try.prog 6 #[.slice a0 len0 cap0, .slice a1 len1 cap1] w fun e w' => e = .returned (.bool true) ∧ Below w.heap.size w w' := by
 obtain ⟨l0, rfl, hr0, hm0, hw0, hc0⟩ := ReadsInt.ofRowC w0
 obtain ⟨l1, rfl, hr1, hm1, hw1, hc1⟩ := ReadsInt.ofRowC w1
 obtain ⟨k, h⟩ := P l0 l1 hm0 y0 hw0 hm1 y1 hw1
 refine (laws_FnTseitin.calls k _ _ l0 _ _ l1 true w (Kd.C_of_reads (d := (0 : Int)) (h1 := fun _ => rfl) hr0) hc0 (Kd.C_of_reads (d := (0 : Int)) (h1 := fun _ => rfl) hr1) hc1 ⟨rfl⟩ h).mono ?_
 rintro e w' ⟨rfl, hd⟩
 exact ⟨rfl, hd⟩
end Go.Proofs.Ytgahidilhjijiaa.PGT
