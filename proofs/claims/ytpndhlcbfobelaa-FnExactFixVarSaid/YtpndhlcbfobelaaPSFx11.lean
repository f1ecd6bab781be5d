-- Made by myprint.py (this session's program, over the kit's print) for this claim. Lean checks it.
import Derived.Test.YtpndhlcbfobelaaPSFx0
import Derived.Test.YtpndhlcbfobelaaPSFx2
import Derived.Test.YtpndhlcbfobelaaPSFx3
import Derived.Test.YtpndhlcbfobelaaPSFx6
import Derived.Test.YtpndhlcbfobelaaPSFx10
namespace Go.Proofs.Ytpndhlcbfobelaa.PSF
open Go.RowKit Go.Proofs.YtpndhlcbfobelaaW.PrintWords Go.Proofs.YtpndhlcbfobelaaW.PrintLast Go.Proofs.YtpndhlcbfobelaaW.PrintMore
attribute [local go_sem] max2_int min2_int max_two min_two max_three min_three max_four min_four   -- for this text's walks alone
set_option linter.unusedVariables false
set_option linter.unusedSimpArgs false

/-! ### laws_FnExactFixVar: function 8 -/
mutual
def laws_FnExactFixVar.j0 : Nat → Int → Bool → Bool → Bool → Bool → Int → List (S101) → Int → Int → List (S75) → Int → Int → List (S75) → Int → Int → List (S75) → Int → Option (Bool)
  | 0, _, _, _, _, _, _, _, _, _, _, _, _, _, _, _, _, _ => none
  | k + 1, x1, x2, x9, x12, x48, x241000, x241001, x241002, x254000, x254001, x254002, x260000, x260001, x260002, x267000, x267001, x267002 => if x48 = true then (some false) else ((laws_toDiagram.f k x241000 x241001 x241002).bind fun bt268 => ((laws_eqDiagram.f k x260000 x260001 x260002 bt268.1 bt268.2.1 bt268.2.2).bind fun t273 => (if t273 = true then ((laws_markDiagram.f k x260000 x260001 x260002 1).bind fun bt274 => (if bt274.1 < 0 then (laws_FnExactFixVar.j1 k x1 x2 x9 true x241000 x241001 x241002 x254000 x254001 x254002 x267000 x267001 x267002) else ((laws_eqDiagram.f k x267000 x267001 x267002 x254000 x254001 x254002).bind fun t276 => (if t276 = true then (laws_FnExactFixVar.j1 k x1 x2 x9 (x12 != x9) x241000 x241001 x241002 x254000 x254001 x254002 x267000 x267001 x267002) else (laws_FnExactFixVar.j1 k x1 x2 x9 true x241000 x241001 x241002 x254000 x254001 x254002 x267000 x267001 x267002))))) else (some false))))
def laws_FnExactFixVar.j1 : Nat → Int → Bool → Bool → Bool → Int → List (S101) → Int → Int → List (S75) → Int → Int → List (S75) → Int → Option (Bool)
  | 0, _, _, _, _, _, _, _, _, _, _, _, _, _ => none
  | k + 1, x1, x2, x9, x69, x241000, x241001, x241002, x254000, x254001, x254002, x267000, x267001, x267002 => if x69 = true then (some false) else ((laws_markDiagram.f k x267000 x267001 x267002 1).bind fun bt277 => ((laws_heldDiagram.f k x267000 bt277.2 x267002 1).bind fun t279 => (if t279 < 0 then (some false) else (if t279 = bt277.1 then ((laws_toDiagram.f k x241000 x241001 x241002).bind fun bt280 => ((impl_FixVar.f k bt280.1 bt280.2.1 bt280.2.2 x1 x2).bind fun bt285 => ((laws_eqDiagram.f k bt285.1 bt285.2.1 bt285.2.2.1 x254000 x254001 x254002).bind fun t292 => (if t292 = true then (laws_FnExactFixVar.j2 k bt277.1 (bt285.2.2.2 != x9) x267000 bt277.2 x267002) else (laws_FnExactFixVar.j2 k bt277.1 true x267000 bt277.2 x267002))))) else (some false)))))
def laws_FnExactFixVar.j2 : Nat → Int → Bool → Int → List (S75) → Int → Option (Bool)
  | 0, _, _, _, _, _ => none
  | k + 1, x14, x97, x267000, x267001, x267002 => if x97 = true then (some false) else ((laws_heldDiagram.f k x267000 x267001 x267002 1).bind fun t293 => (if t293 < 0 then (some false) else (if t293 = x14 then (some true) else (some false))))
end
def laws_FnExactFixVar.f (k : Nat) (a0_0 : Int) (l0_1 : List (S101)) (a0_2 : Int) (a1 : Int) (a2 : Bool) : Option (Bool) := (laws_szDiagram.f a0_0 l0_1 a0_2 1048576).bind fun t241 => (if t241 < 0 then (some true) else ((laws_toDiagram.f k a0_0 l0_1 a0_2).bind fun bt242 => ((spec_FixVar.f k bt242.1 bt242.2.1 bt242.2.2 a1 a2).bind fun bt247 => ((laws_toDiagram.f k a0_0 l0_1 a0_2).bind fun bt254 => ((impl_FixVar.f k bt254.1 bt254.2.1 bt254.2.2 a1 a2).bind fun bt260 => ((laws_eqDiagram.f k bt260.1 bt260.2.1 bt260.2.2.1 bt247.1 bt247.2.1 bt247.2.2.1).bind fun t267 => (if t267 = true then (laws_FnExactFixVar.j0 k a1 a2 bt247.2.2.2 bt260.2.2.2 (bt260.2.2.2 != bt247.2.2.2) a0_0 l0_1 a0_2 bt247.1 bt247.2.1 bt247.2.2.1 bt254.1 bt254.2.1 bt254.2.2 bt260.1 bt260.2.1 bt260.2.2.1) else (laws_FnExactFixVar.j0 k a1 a2 bt247.2.2.2 bt260.2.2.2 true a0_0 l0_1 a0_2 bt247.1 bt247.2.1 bt247.2.2.1 bt254.1 bt254.2.1 bt254.2.2 bt260.1 bt260.2.1 bt260.2.2.1))))))))
theorem laws_FnExactFixVar.mono_l : ∀ k, (∀ y0 y1 y2 y3 y4 y5 y6 y7 y8 y9 y10 y11 y12 y13 y14 y15 y16, LeO (laws_FnExactFixVar.j0 k y0 y1 y2 y3 y4 y5 y6 y7 y8 y9 y10 y11 y12 y13 y14 y15 y16) (laws_FnExactFixVar.j0 (k + 1) y0 y1 y2 y3 y4 y5 y6 y7 y8 y9 y10 y11 y12 y13 y14 y15 y16)) ∧ (∀ y0 y1 y2 y3 y4 y5 y6 y7 y8 y9 y10 y11 y12, LeO (laws_FnExactFixVar.j1 k y0 y1 y2 y3 y4 y5 y6 y7 y8 y9 y10 y11 y12) (laws_FnExactFixVar.j1 (k + 1) y0 y1 y2 y3 y4 y5 y6 y7 y8 y9 y10 y11 y12)) ∧ (∀ y0 y1 y2 y3 y4, LeO (laws_FnExactFixVar.j2 k y0 y1 y2 y3 y4) (laws_FnExactFixVar.j2 (k + 1) y0 y1 y2 y3 y4))
  | 0 => ⟨fun _ _ _ _ _ _ _ _ _ _ _ _ _ _ _ _ _ r h => by simp [laws_FnExactFixVar.j0] at h, fun _ _ _ _ _ _ _ _ _ _ _ _ _ r h => by simp [laws_FnExactFixVar.j1] at h, fun _ _ _ _ _ r h => by simp [laws_FnExactFixVar.j2] at h⟩
  | k + 1 => by
    obtain ⟨ih0, ih1, ih2⟩ := laws_FnExactFixVar.mono_l k
    refine ⟨?_, ?_, ?_⟩
    · intro y0 y1 y2 y3 y4 y5 y6 y7 y8 y9 y10 y11 y12 y13 y14 y15 y16
      unfold laws_FnExactFixVar.j0
      repeat' first
      | (with_reducible exact ih0 _ _ _ _ _ _ _ _ _ _ _ _ _ _ _ _ _)
      | (with_reducible exact ih1 _ _ _ _ _ _ _ _ _ _ _ _ _)
      | (with_reducible exact ih2 _ _ _ _ _)
      | (with_reducible exact impl_FixVar.mono _ _ _ _ _ _)
      | (with_reducible exact laws_eqDiagram.mono _ _ _ _ _ _ _)
      | (with_reducible exact laws_heldDiagram.mono _ _ _ _ _)
      | (with_reducible exact laws_markDiagram.mono _ _ _ _ _)
      | (with_reducible exact laws_toDiagram.mono _ _ _ _)
      | (with_reducible exact spec_FixVar.mono _ _ _ _ _ _)
      | (with_reducible exact LeO.refl _)
      | (with_reducible exact LeO.none _)
      | (with_reducible refine LeO.ite ?_ ?_)
      | (with_reducible refine LeO.bind ?_ (fun _ => ?_))
      | exact ih0 _ _ _ _ _ _ _ _ _ _ _ _ _ _ _ _ _
      | exact ih1 _ _ _ _ _ _ _ _ _ _ _ _ _
      | exact ih2 _ _ _ _ _
      | exact impl_FixVar.mono _ _ _ _ _ _
      | exact laws_eqDiagram.mono _ _ _ _ _ _ _
      | exact laws_heldDiagram.mono _ _ _ _ _
      | exact laws_markDiagram.mono _ _ _ _ _
      | exact laws_toDiagram.mono _ _ _ _
      | exact spec_FixVar.mono _ _ _ _ _ _
      | exact LeO.none _
      | refine LeO.ite ?_ ?_
      | refine LeO.bind ?_ (fun _ => ?_)
    · intro y0 y1 y2 y3 y4 y5 y6 y7 y8 y9 y10 y11 y12
      unfold laws_FnExactFixVar.j1
      repeat' first
      | (with_reducible exact ih0 _ _ _ _ _ _ _ _ _ _ _ _ _ _ _ _ _)
      | (with_reducible exact ih1 _ _ _ _ _ _ _ _ _ _ _ _ _)
      | (with_reducible exact ih2 _ _ _ _ _)
      | (with_reducible exact impl_FixVar.mono _ _ _ _ _ _)
      | (with_reducible exact laws_eqDiagram.mono _ _ _ _ _ _ _)
      | (with_reducible exact laws_heldDiagram.mono _ _ _ _ _)
      | (with_reducible exact laws_markDiagram.mono _ _ _ _ _)
      | (with_reducible exact laws_toDiagram.mono _ _ _ _)
      | (with_reducible exact spec_FixVar.mono _ _ _ _ _ _)
      | (with_reducible exact LeO.refl _)
      | (with_reducible exact LeO.none _)
      | (with_reducible refine LeO.ite ?_ ?_)
      | (with_reducible refine LeO.bind ?_ (fun _ => ?_))
      | exact ih0 _ _ _ _ _ _ _ _ _ _ _ _ _ _ _ _ _
      | exact ih1 _ _ _ _ _ _ _ _ _ _ _ _ _
      | exact ih2 _ _ _ _ _
      | exact impl_FixVar.mono _ _ _ _ _ _
      | exact laws_eqDiagram.mono _ _ _ _ _ _ _
      | exact laws_heldDiagram.mono _ _ _ _ _
      | exact laws_markDiagram.mono _ _ _ _ _
      | exact laws_toDiagram.mono _ _ _ _
      | exact spec_FixVar.mono _ _ _ _ _ _
      | exact LeO.none _
      | refine LeO.ite ?_ ?_
      | refine LeO.bind ?_ (fun _ => ?_)
    · intro y0 y1 y2 y3 y4
      unfold laws_FnExactFixVar.j2
      repeat' first
      | (with_reducible exact ih0 _ _ _ _ _ _ _ _ _ _ _ _ _ _ _ _ _)
      | (with_reducible exact ih1 _ _ _ _ _ _ _ _ _ _ _ _ _)
      | (with_reducible exact ih2 _ _ _ _ _)
      | (with_reducible exact impl_FixVar.mono _ _ _ _ _ _)
      | (with_reducible exact laws_eqDiagram.mono _ _ _ _ _ _ _)
      | (with_reducible exact laws_heldDiagram.mono _ _ _ _ _)
      | (with_reducible exact laws_markDiagram.mono _ _ _ _ _)
      | (with_reducible exact laws_toDiagram.mono _ _ _ _)
      | (with_reducible exact spec_FixVar.mono _ _ _ _ _ _)
      | (with_reducible exact LeO.refl _)
      | (with_reducible exact LeO.none _)
      | (with_reducible refine LeO.ite ?_ ?_)
      | (with_reducible refine LeO.bind ?_ (fun _ => ?_))
      | exact ih0 _ _ _ _ _ _ _ _ _ _ _ _ _ _ _ _ _
      | exact ih1 _ _ _ _ _ _ _ _ _ _ _ _ _
      | exact ih2 _ _ _ _ _
      | exact impl_FixVar.mono _ _ _ _ _ _
      | exact laws_eqDiagram.mono _ _ _ _ _ _ _
      | exact laws_heldDiagram.mono _ _ _ _ _
      | exact laws_markDiagram.mono _ _ _ _ _
      | exact laws_toDiagram.mono _ _ _ _
      | exact spec_FixVar.mono _ _ _ _ _ _
      | exact LeO.none _
      | refine LeO.ite ?_ ?_
      | refine LeO.bind ?_ (fun _ => ?_)
theorem laws_FnExactFixVar.mono : ∀ a0 a1 a2 a3 a4 k, LeO (laws_FnExactFixVar.f k a0 a1 a2 a3 a4) (laws_FnExactFixVar.f (k + 1) a0 a1 a2 a3 a4) := by
  intro a0 a1 a2 a3 a4 k
  obtain ⟨ih0, ih1, ih2⟩ := laws_FnExactFixVar.mono_l k
  unfold laws_FnExactFixVar.f
  repeat' first
      | (with_reducible exact ih0 _ _ _ _ _ _ _ _ _ _ _ _ _ _ _ _ _)
      | (with_reducible exact ih1 _ _ _ _ _ _ _ _ _ _ _ _ _)
      | (with_reducible exact ih2 _ _ _ _ _)
      | (with_reducible exact impl_FixVar.mono _ _ _ _ _ _)
      | (with_reducible exact laws_eqDiagram.mono _ _ _ _ _ _ _)
      | (with_reducible exact laws_heldDiagram.mono _ _ _ _ _)
      | (with_reducible exact laws_markDiagram.mono _ _ _ _ _)
      | (with_reducible exact laws_toDiagram.mono _ _ _ _)
      | (with_reducible exact spec_FixVar.mono _ _ _ _ _ _)
      | (with_reducible exact LeO.refl _)
      | (with_reducible exact LeO.none _)
      | (with_reducible refine LeO.ite ?_ ?_)
      | (with_reducible refine LeO.bind ?_ (fun _ => ?_))
      | exact ih0 _ _ _ _ _ _ _ _ _ _ _ _ _ _ _ _ _
      | exact ih1 _ _ _ _ _ _ _ _ _ _ _ _ _
      | exact ih2 _ _ _ _ _
      | exact impl_FixVar.mono _ _ _ _ _ _
      | exact laws_eqDiagram.mono _ _ _ _ _ _ _
      | exact laws_heldDiagram.mono _ _ _ _ _
      | exact laws_markDiagram.mono _ _ _ _ _
      | exact laws_toDiagram.mono _ _ _ _
      | exact spec_FixVar.mono _ _ _ _ _ _
      | exact LeO.none _
      | refine LeO.ite ?_ ?_
      | refine LeO.bind ?_ (fun _ => ?_)
set_option maxHeartbeats 8000000 in
set_option maxRecDepth 100000 in
theorem laws_FnExactFixVar.calls (k : Nat) (a0_0 : Int) (A0_1 : Option Addr) (c0_1 : Nat) (l0_1 : List (S101)) (a0_2 : Int) (a1 : Int) (a2 : Bool) (r : Bool) (w : World) (hr0_1 : Kd.C k101 w A0_1 l0_1.length l0_1) (hc0_1 : l0_1.length ≤ c0_1) (hr_ : Aside0 (r = true)) (h : laws_FnExactFixVar.f k a0_0 l0_1 a0_2 a1 a2 = some r) :
    Calls Try.prog 8 #[.agg #[.int .i64 a0_0, .slice A0_1 l0_1.length c0_1, .int .i64 a0_2], .int .i64 a1, .bool a2] w fun e w' => e = .returned (.bool r) ∧ Below w.heap.size w w' := by
  have hu24 := Try.underlying24
  have hu30 := Try.underlying30
  have HR0_1 := Aside0.mk hr0_1
  have HC0_1 := Aside0.mk hc0_1
  clear hr0_1 hc0_1
  have HB := Aside0.mk (Below.refl w.heap.size w)
  have H : ((laws_szDiagram.f a0_0 l0_1 a0_2 1048576).bind fun t241 => (if t241 < 0 then (some true) else ((laws_toDiagram.f k a0_0 l0_1 a0_2).bind fun bt242 => ((spec_FixVar.f k bt242.1 bt242.2.1 bt242.2.2 a1 a2).bind fun bt247 => ((laws_toDiagram.f k a0_0 l0_1 a0_2).bind fun bt254 => ((impl_FixVar.f k bt254.1 bt254.2.1 bt254.2.2 a1 a2).bind fun bt260 => ((laws_eqDiagram.f k bt260.1 bt260.2.1 bt260.2.2.1 bt247.1 bt247.2.1 bt247.2.2.1).bind fun t267 => (if t267 = true then (laws_FnExactFixVar.j0 k a1 a2 bt247.2.2.2 bt260.2.2.2 (bt260.2.2.2 != bt247.2.2.2) a0_0 l0_1 a0_2 bt247.1 bt247.2.1 bt247.2.2.1 bt254.1 bt254.2.1 bt254.2.2 bt260.1 bt260.2.1 bt260.2.2.1) else (laws_FnExactFixVar.j0 k a1 a2 bt247.2.2.2 bt260.2.2.2 true a0_0 l0_1 a0_2 bt247.1 bt247.2.1 bt247.2.2.1 bt254.1 bt254.2.1 bt254.2.2 bt260.1 bt260.2.1 bt260.2.2.1))))))))) = some r := h
  clear h
  replace H := Option.bind_eq_some_iff.mp H
  obtain ⟨t241, A40, H⟩ := H
  replace H : (if t241 < 0 then (some true) else ((laws_toDiagram.f k a0_0 l0_1 a0_2).bind fun bt242 => ((spec_FixVar.f k bt242.1 bt242.2.1 bt242.2.2 a1 a2).bind fun bt247 => ((laws_toDiagram.f k a0_0 l0_1 a0_2).bind fun bt254 => ((impl_FixVar.f k bt254.1 bt254.2.1 bt254.2.2 a1 a2).bind fun bt260 => ((laws_eqDiagram.f k bt260.1 bt260.2.1 bt260.2.2.1 bt247.1 bt247.2.1 bt247.2.2.1).bind fun t267 => (if t267 = true then (laws_FnExactFixVar.j0 k a1 a2 bt247.2.2.2 bt260.2.2.2 (bt260.2.2.2 != bt247.2.2.2) a0_0 l0_1 a0_2 bt247.1 bt247.2.1 bt247.2.2.1 bt254.1 bt254.2.1 bt254.2.2 bt260.1 bt260.2.1 bt260.2.2.1) else (laws_FnExactFixVar.j0 k a1 a2 bt247.2.2.2 bt260.2.2.2 true a0_0 l0_1 a0_2 bt247.1 bt247.2.1 bt247.2.2.1 bt254.1 bt254.2.1 bt254.2.2 bt260.1 bt260.2.1 bt260.2.2.1)))))))) = some r := H
  have A4 := Aside0.mk A40
  clear A40
  by_cases c5 : t241 < 0
  · rw [if_pos c5] at H
    have c5b0 : decide (t241 < 0) = true := decide_eq_true c5
    clear c5
    obtain rfl := Option.some.inj H
    go_enter Try.func8, Try.ntmps8
    go_wp2_with (first | ((with_reducible refine gate_dst (N := 3) rfl ?_); refine boxq_ (N := 3) (cs := #[.int .i64 a0_0, .slice A0_1 l0_1.length c0_1, .int .i64 a0_2]) (t := 24) ?_; intro gb240 hg w6 hbox hb; have n0_ := Aside0.mk (below_step (bq_) hb); have n1_ := Aside0.mk (hbox); have n2_ := Aside0.mk ((by rw [hg]; exact (below_size (bq_)) : w.heap.size ≤ gb240)); have n3_ := Aside0.mk ((by rw [hg]; exact (below_size (bq_)) : w.heap.size ≤ gb240)); clear HB; have HB := n0_; have BK240 := n1_; have GW240 := n2_; have GE240 := n3_; clear n0_ n1_ n2_ n3_; clear hb hbox hg; have hcz7_0 := cq_ BK240.out 0 (.int .i64 a0_0); have hcz7_1 := cq_ BK240.out 1 (.slice A0_1 l0_1.length c0_1); have hcz7_2 := cq_ BK240.out 2 (.int .i64 a0_2); have hfz7_0 := blk_frozen BK240.out 0; have hfz7_1 := blk_frozen BK240.out 1; have hfz7_2 := blk_frozen BK240.out 2) | ((with_reducible refine gate_callee (f := 12) rfl ?_); refine goesL_ (some 20) rfl rfl Try.func12 (by kernel_rfl) rfl #[.agg #[.int .i64 a0_0, .slice A0_1 l0_1.length c0_1, .int .i64 a0_2], .int .i64 1048576] rfl (by (try simp only [List.map_toArray, List.map_cons, List.map_nil]); first | done | rfl | (simp only [List.length_drop, List.length_take]; rfl)) ?_; (with_reducible refine (laws_szDiagram.calls a0_0 _ _ l0_1 a0_2 1048576 t241 _ ?side1 ?side2 A4.out).mono ?_); (case side1 => repeat (first | exact (Kd.C_below HR0_1.out HB.out) | (with_reducible refine Kd.C_alloc ?_ _) | (with_reducible refine Kd.C_drewN ?_ _) | (with_reducible refine Kd.C_drew ?_))); (case side2 => exact HC0_1.out); rintro e w8 ⟨rfl, hb⟩; refine ⟨_, rfl, ?_⟩; have n0_ := Aside0.mk (blk_below (bk_ BK240.out) hb); have n1_ := Aside0.mk (below_step (bq_) hb); clear BK240; clear HB; have BK240 := n0_; have HB := n1_; clear n0_ n1_; (try clear hb); (try clear hb2); (try clear hk); (try clear hi)))
    go_ret
    exact ⟨by first | rfl | (simp [errW_none, errW_some] <;> rfl) | (simp [*, errW_none, errW_some] <;> rfl), bq_⟩
  · rw [if_neg c5] at H
    have c5b0 : decide (t241 < 0) = false := decide_eq_false c5
    clear c5
    replace H := Option.bind_eq_some_iff.mp H
    obtain ⟨⟨t242, t243, t246⟩, A90, H⟩ := H
    replace H : ((spec_FixVar.f k t242 t243 t246 a1 a2).bind fun bt247 => ((laws_toDiagram.f k a0_0 l0_1 a0_2).bind fun bt254 => ((impl_FixVar.f k bt254.1 bt254.2.1 bt254.2.2 a1 a2).bind fun bt260 => ((laws_eqDiagram.f k bt260.1 bt260.2.1 bt260.2.2.1 bt247.1 bt247.2.1 bt247.2.2.1).bind fun t267 => (if t267 = true then (laws_FnExactFixVar.j0 k a1 a2 bt247.2.2.2 bt260.2.2.2 (bt260.2.2.2 != bt247.2.2.2) a0_0 l0_1 a0_2 bt247.1 bt247.2.1 bt247.2.2.1 bt254.1 bt254.2.1 bt254.2.2 bt260.1 bt260.2.1 bt260.2.2.1) else (laws_FnExactFixVar.j0 k a1 a2 bt247.2.2.2 bt260.2.2.2 true a0_0 l0_1 a0_2 bt247.1 bt247.2.1 bt247.2.2.1 bt254.1 bt254.2.1 bt254.2.2 bt260.1 bt260.2.1 bt260.2.2.1)))))) = some r := H
    have A9 := Aside0.mk A90
    clear A90
    replace H := Option.bind_eq_some_iff.mp H
    obtain ⟨⟨t247, t248, t251, t252⟩, A100, H⟩ := H
    replace H : ((laws_toDiagram.f k a0_0 l0_1 a0_2).bind fun bt254 => ((impl_FixVar.f k bt254.1 bt254.2.1 bt254.2.2 a1 a2).bind fun bt260 => ((laws_eqDiagram.f k bt260.1 bt260.2.1 bt260.2.2.1 t247 t248 t251).bind fun t267 => (if t267 = true then (laws_FnExactFixVar.j0 k a1 a2 t252 bt260.2.2.2 (bt260.2.2.2 != t252) a0_0 l0_1 a0_2 t247 t248 t251 bt254.1 bt254.2.1 bt254.2.2 bt260.1 bt260.2.1 bt260.2.2.1) else (laws_FnExactFixVar.j0 k a1 a2 t252 bt260.2.2.2 true a0_0 l0_1 a0_2 t247 t248 t251 bt254.1 bt254.2.1 bt254.2.2 bt260.1 bt260.2.1 bt260.2.2.1))))) = some r := H
    have A10 := Aside0.mk A100
    clear A100
    replace H := Option.bind_eq_some_iff.mp H
    obtain ⟨⟨t254, t255, t258⟩, A110, H⟩ := H
    replace H : ((impl_FixVar.f k t254 t255 t258 a1 a2).bind fun bt260 => ((laws_eqDiagram.f k bt260.1 bt260.2.1 bt260.2.2.1 t247 t248 t251).bind fun t267 => (if t267 = true then (laws_FnExactFixVar.j0 k a1 a2 t252 bt260.2.2.2 (bt260.2.2.2 != t252) a0_0 l0_1 a0_2 t247 t248 t251 t254 t255 t258 bt260.1 bt260.2.1 bt260.2.2.1) else (laws_FnExactFixVar.j0 k a1 a2 t252 bt260.2.2.2 true a0_0 l0_1 a0_2 t247 t248 t251 t254 t255 t258 bt260.1 bt260.2.1 bt260.2.2.1)))) = some r := H
    have A11 := Aside0.mk A110
    clear A110
    replace H := Option.bind_eq_some_iff.mp H
    obtain ⟨⟨t260, t261, t264, t265⟩, A120, H⟩ := H
    replace H : ((laws_eqDiagram.f k t260 t261 t264 t247 t248 t251).bind fun t267 => (if t267 = true then (laws_FnExactFixVar.j0 k a1 a2 t252 t265 (t265 != t252) a0_0 l0_1 a0_2 t247 t248 t251 t254 t255 t258 t260 t261 t264) else (laws_FnExactFixVar.j0 k a1 a2 t252 t265 true a0_0 l0_1 a0_2 t247 t248 t251 t254 t255 t258 t260 t261 t264))) = some r := H
    have A12 := Aside0.mk A120
    clear A120
    have HC13 := Aside0.mk H
    clear H
    go_enter Try.func8, Try.ntmps8
    go_upto_region 8 with (first | ((with_reducible refine gate_dst (N := 3) rfl ?_); refine boxq_ (N := 3) (cs := #[.int .i64 a0_0, .slice A0_1 l0_1.length c0_1, .int .i64 a0_2]) (t := 24) ?_; intro gb240 hg w14 hbox hb; have n0_ := Aside0.mk (below_step (bq_) hb); have n1_ := Aside0.mk (hbox); have n2_ := Aside0.mk ((by rw [hg]; exact (below_size (bq_)) : w.heap.size ≤ gb240)); have n3_ := Aside0.mk ((by rw [hg]; exact (below_size (bq_)) : w.heap.size ≤ gb240)); clear HB; have HB := n0_; have BK240 := n1_; have GW240 := n2_; have GE240 := n3_; clear n0_ n1_ n2_ n3_; clear hb hbox hg; have hcz15_0 := cq_ BK240.out 0 (.int .i64 a0_0); have hcz15_1 := cq_ BK240.out 1 (.slice A0_1 l0_1.length c0_1); have hcz15_2 := cq_ BK240.out 2 (.int .i64 a0_2); have hfz15_0 := blk_frozen BK240.out 0; have hfz15_1 := blk_frozen BK240.out 1; have hfz15_2 := blk_frozen BK240.out 2) | ((with_reducible refine gate_callee (f := 12) rfl ?_); refine goesL_ (some 20) rfl rfl Try.func12 (by kernel_rfl) rfl #[.agg #[.int .i64 a0_0, .slice A0_1 l0_1.length c0_1, .int .i64 a0_2], .int .i64 1048576] rfl (by (try simp only [List.map_toArray, List.map_cons, List.map_nil]); first | done | rfl | (simp only [List.length_drop, List.length_take]; rfl)) ?_; (with_reducible refine (laws_szDiagram.calls a0_0 _ _ l0_1 a0_2 1048576 t241 _ ?side1 ?side2 A4.out).mono ?_); (case side1 => repeat (first | exact (Kd.C_below HR0_1.out HB.out) | (with_reducible refine Kd.C_alloc ?_ _) | (with_reducible refine Kd.C_drewN ?_ _) | (with_reducible refine Kd.C_drew ?_))); (case side2 => exact HC0_1.out); rintro e w16 ⟨rfl, hb⟩; refine ⟨_, rfl, ?_⟩; have n0_ := Aside0.mk (blk_below (bk_ BK240.out) hb); have n1_ := Aside0.mk (below_step (bq_) hb); clear BK240; clear HB; have BK240 := n0_; have HB := n1_; clear n0_ n1_; (try clear hb); (try clear hb2); (try clear hk); (try clear hi); have hcz17_0 := cq_ BK240.out 0 (.int .i64 a0_0); have hcz17_1 := cq_ BK240.out 1 (.slice A0_1 l0_1.length c0_1); have hcz17_2 := cq_ BK240.out 2 (.int .i64 a0_2); have hfz17_0 := blk_frozen BK240.out 0; have hfz17_1 := blk_frozen BK240.out 1; have hfz17_2 := blk_frozen BK240.out 2) | ((with_reducible refine gate_callee (f := 14) rfl ?_); refine goesL_ (some 25) rfl rfl Try.func14 (by kernel_rfl) rfl #[.agg #[.int .i64 a0_0, .slice A0_1 l0_1.length c0_1, .int .i64 a0_2]] rfl (by (try simp only [List.map_toArray, List.map_cons, List.map_nil]); first | done | rfl | (simp only [List.length_drop, List.length_take]; rfl)) ?_; (with_reducible refine (laws_toDiagram.calls k a0_0 _ _ l0_1 a0_2 t242 t243 t246 _ ?side1 ?side2 A9.out).mono ?_); (case side1 => repeat (first | exact (Kd.C_below HR0_1.out HB.out) | (with_reducible refine Kd.C_alloc ?_ _) | (with_reducible refine Kd.C_drewN ?_ _) | (with_reducible refine Kd.C_drew ?_))); (case side2 => exact HC0_1.out); rintro e w18 ⟨v244, rfl, ho0, hb⟩; refine ⟨_, rfl, ?_⟩; have n0_ := Aside0.mk (Kd.R_lower ho0 (below_size (bq_))); have n1_ := Aside0.mk (blk_below (bk_ BK240.out) hb); have n2_ := Aside0.mk (below_step (bq_) hb); clear BK240; clear HB; have HO245 := n0_; have BK240 := n1_; have HB := n2_; clear n0_ n1_ n2_; (try clear hb); (try clear hb2); (try clear hk); (try clear hi); (try clear ho0); obtain ⟨Ao19, co19, eo19⟩ := Kd.R_slice HO245.out; subst eo19) | ((with_reducible refine gate_callee (f := 31) rfl ?_); refine goesL_ (some 28) rfl rfl Try.func31 (by kernel_rfl) rfl #[.agg #[.int .i64 t242, .slice Ao19 t243.length co19, .int .i64 t246], .int .i64 a1, .bool a2] rfl (by (try simp only [List.map_toArray, List.map_cons, List.map_nil]); first | done | rfl | (simp only [List.length_drop, List.length_take]; rfl)) ?_; (with_reducible refine (spec_FixVar.calls k t242 _ _ t243 t246 a1 a2 t247 t248 t251 t252 _ ?side1 ?side2 A10.out).mono ?_); (case side1 => repeat (first | exact (Kd.R_reads' HO245.out).2.2 | (with_reducible refine Kd.C_alloc ?_ _) | (with_reducible refine Kd.C_drewN ?_ _) | (with_reducible refine Kd.C_drew ?_))); (case side2 => exact (Kd.R_reads' HO245.out).2.1); rintro e w20 ⟨v249, rfl, ho0, hb⟩; refine ⟨_, rfl, ?_⟩; have n0_ := Aside0.mk (Kd.R_elder' (rq_ HO245.out) (Kd.R_base ho0) hb); have n1_ := Aside0.mk (Kd.R_lower (Kd.R_new' ho0 (Kd.R_lt (rq_ HO245.out))) (below_size (bq_))); have n2_ := Aside0.mk (blk_below (bk_ BK240.out) hb); have n3_ := Aside0.mk (below_step (bq_) hb); clear HO245; clear BK240; clear HB; have HO245 := n0_; have HO250 := n1_; have BK240 := n2_; have HB := n3_; clear n0_ n1_ n2_ n3_; (try clear hb); (try clear hb2); (try clear hk); (try clear hi); (try clear ho0)) | ((with_reducible refine gate_dst (N := 8) rfl ?_); refine boxq_ (N := 8) (cs := #[.int .i64 0, .slice none 0 0, .int .i64 0]) (t := 30) ?_; intro gb253 hg w21 hbox hb; have n0_ := Aside0.mk (Kd.R_below (rq_ HO245.out) hb); have n1_ := Aside0.mk (Kd.R_below (rq_ HO250.out) hb); have n2_ := Aside0.mk (blk_below (bk_ BK240.out) hb); have n3_ := Aside0.mk (below_step (bq_) hb); have n4_ := Aside0.mk (hbox); have n5_ := Aside0.mk ((by rw [hg]; exact (below_size (bq_)) : w.heap.size ≤ gb253)); have n6_ := Aside0.mk ((by rw [hg]; exact (below_size (bq_)) : w.heap.size ≤ gb253)); have n7_ := Aside0.mk ((by rw [hg]; exact Nat.ne_of_lt (blk_lt (bk_ BK240.out)) : gb240 ≠ gb253)); have n8_ := Aside0.mk ((by rw [hg]; exact Nat.ne_of_gt (blk_lt (bk_ BK240.out)) : gb253 ≠ gb240)); clear HO245; clear HO250; clear BK240; clear HB; have HO245 := n0_; have HO250 := n1_; have BK240 := n2_; have HB := n3_; have BK253 := n4_; have GW253 := n5_; have GE253 := n6_; have NB240_253 := n7_; have NB253_240 := n8_; clear n0_ n1_ n2_ n3_ n4_ n5_ n6_ n7_ n8_; clear hb hbox hg; have hnb22 := NB253_240.out; have hnc22 := NB240_253.out; have hcz23_0 := cq_ BK253.out 0 (.int .i64 0); have hcz23_1 := cq_ BK253.out 1 (.slice none 0 0); have hcz23_2 := cq_ BK253.out 2 (.int .i64 0); have hfz23_0 := blk_frozen BK253.out 0; have hfz23_1 := blk_frozen BK253.out 1; have hfz23_2 := blk_frozen BK253.out 2; obtain ⟨Ao24, co24, eo24⟩ := Kd.R_slice HO250.out; subst eo24; have hcz25_0 := cq_ BK240.out 0 (.int .i64 a0_0); have hcz25_1 := cq_ BK240.out 1 (.slice A0_1 l0_1.length c0_1); have hcz25_2 := cq_ BK240.out 2 (.int .i64 a0_2); have hfz25_0 := blk_frozen BK240.out 0; have hfz25_1 := blk_frozen BK240.out 1; have hfz25_2 := blk_frozen BK240.out 2) | ((with_reducible refine gate_callee (f := 14) rfl ?_); refine goesL_ (some 32) rfl rfl Try.func14 (by kernel_rfl) rfl #[.agg #[.int .i64 a0_0, .slice A0_1 l0_1.length c0_1, .int .i64 a0_2]] rfl (by (try simp only [List.map_toArray, List.map_cons, List.map_nil]); first | done | rfl | (simp only [List.length_drop, List.length_take]; rfl)) ?_; (with_reducible refine (laws_toDiagram.calls k a0_0 _ _ l0_1 a0_2 t254 t255 t258 _ ?side1 ?side2 A11.out).mono ?_); (case side1 => exact Kd.C_below HR0_1.out (bq_)); (case side2 => exact HC0_1.out); rintro e w26 ⟨v256, rfl, ho0, hb⟩; refine ⟨_, rfl, ?_⟩; have n0_ := Aside0.mk (Kd.R_elder' (rq_ ((Kd.R_mono (Kd.R_far (p := ⟨gb253, 2, none⟩) (Kd.R_far (p := ⟨gb253, 1, none⟩) (Kd.R_far (p := ⟨gb253, 0, none⟩) (Kd.R_types HO245.out BK253.out (by decide)) (fun _ hk => hk.2) (.int .i64 t247)) (fun _ hk => hk.2) (.slice Ao24 t248.length co24)) (fun _ hk => hk.2) (.int .i64 t251)) (fun _ h_ => h_.1)))) (Kd.R_base ho0) hb); have n1_ := Aside0.mk (Kd.R_elder' (rq_ ((Kd.R_mono (Kd.R_far (p := ⟨gb253, 2, none⟩) (Kd.R_far (p := ⟨gb253, 1, none⟩) (Kd.R_far (p := ⟨gb253, 0, none⟩) (Kd.R_types HO250.out BK253.out (by decide)) (fun _ hk => hk.2) (.int .i64 t247)) (fun _ hk => hk.2) (.slice Ao24 t248.length co24)) (fun _ hk => hk.2) (.int .i64 t251)) (fun _ h_ => h_.1)))) (Kd.R_base ho0) hb); have n2_ := Aside0.mk (Kd.R_lower (Kd.R_new' (Kd.R_new' ho0 (Kd.R_lt (rq_ ((Kd.R_mono (Kd.R_far (p := ⟨gb253, 2, none⟩) (Kd.R_far (p := ⟨gb253, 1, none⟩) (Kd.R_far (p := ⟨gb253, 0, none⟩) (Kd.R_types HO245.out BK253.out (by decide)) (fun _ hk => hk.2) (.int .i64 t247)) (fun _ hk => hk.2) (.slice Ao24 t248.length co24)) (fun _ hk => hk.2) (.int .i64 t251)) (fun _ h_ => h_.1)))))) (Kd.R_lt (rq_ ((Kd.R_mono (Kd.R_far (p := ⟨gb253, 2, none⟩) (Kd.R_far (p := ⟨gb253, 1, none⟩) (Kd.R_far (p := ⟨gb253, 0, none⟩) (Kd.R_types HO250.out BK253.out (by decide)) (fun _ hk => hk.2) (.int .i64 t247)) (fun _ hk => hk.2) (.slice Ao24 t248.length co24)) (fun _ hk => hk.2) (.int .i64 t251)) (fun _ h_ => h_.1)))))) (below_size (bq_))); have n3_ := Aside0.mk (blk_below (g := gb240) (o := .cells #[.int .i64 a0_0, .slice A0_1 l0_1.length c0_1, .int .i64 a0_2] 24 (0, 0)) (by (with_reducible repeat (first | refine blk_drewN ?_ _ | refine blk_drew ?_ | refine blk_alloc ?_ _)); refine blk_far ?_ NB240_253.out _; (with_reducible repeat (first | refine blk_drewN ?_ _ | refine blk_drew ?_ | refine blk_alloc ?_ _)); refine blk_far ?_ NB240_253.out _; (with_reducible repeat (first | refine blk_drewN ?_ _ | refine blk_drew ?_ | refine blk_alloc ?_ _)); refine blk_far ?_ NB240_253.out _; (with_reducible repeat (first | refine blk_drewN ?_ _ | refine blk_drew ?_ | refine blk_alloc ?_ _)); exact BK240.out) hb); have n4_ := Aside0.mk (blk_below (g := gb253) (o := .cells #[.int .i64 t247, .slice Ao24 t248.length co24, .int .i64 t251] 30 (0, 0)) (by (with_reducible repeat (first | refine blk_drewN ?_ _ | refine blk_drew ?_ | refine blk_alloc ?_ _)); refine blk_put (cs := #[.int .i64 t247, .slice Ao24 t248.length co24, .int .i64 0]) ?_ 2 _ rfl; (with_reducible repeat (first | refine blk_drewN ?_ _ | refine blk_drew ?_ | refine blk_alloc ?_ _)); refine blk_put (cs := #[.int .i64 t247, .slice none 0 0, .int .i64 0]) ?_ 1 _ rfl; (with_reducible repeat (first | refine blk_drewN ?_ _ | refine blk_drew ?_ | refine blk_alloc ?_ _)); refine blk_put (cs := #[.int .i64 0, .slice none 0 0, .int .i64 0]) ?_ 0 _ rfl; (with_reducible repeat (first | refine blk_drewN ?_ _ | refine blk_drew ?_ | refine blk_alloc ?_ _)); exact BK253.out) hb); have n5_ := Aside0.mk (below_step (bq_) hb); clear HO245; clear HO250; clear BK240; clear BK253; clear HB; have HO245 := n0_; have HO250 := n1_; have HO257 := n2_; have BK240 := n3_; have BK253 := n4_; have HB := n5_; clear n0_ n1_ n2_ n3_ n4_ n5_; (try clear hb); (try clear hb2); (try clear hk); (try clear hi); (try clear ho0)) | ((with_reducible refine gate_dst (N := 10) rfl ?_); refine boxq_ (N := 10) (cs := #[.int .i64 0, .slice none 0 0, .int .i64 0]) (t := 30) ?_; intro gb259 hg w27 hbox hb; have n0_ := Aside0.mk (Kd.R_below (rq_ HO245.out) hb); have n1_ := Aside0.mk (Kd.R_below (rq_ HO250.out) hb); have n2_ := Aside0.mk (Kd.R_below (rq_ HO257.out) hb); have n3_ := Aside0.mk (blk_below (bk_ BK240.out) hb); have n4_ := Aside0.mk (blk_below (bk_ BK253.out) hb); have n5_ := Aside0.mk (below_step (bq_) hb); have n6_ := Aside0.mk (hbox); have n7_ := Aside0.mk ((by rw [hg]; exact (below_size (bq_)) : w.heap.size ≤ gb259)); have n8_ := Aside0.mk ((by rw [hg]; exact (below_size (bq_)) : w.heap.size ≤ gb259)); have n9_ := Aside0.mk ((by rw [hg]; exact Nat.ne_of_lt (blk_lt (bk_ BK240.out)) : gb240 ≠ gb259)); have n10_ := Aside0.mk ((by rw [hg]; exact Nat.ne_of_gt (blk_lt (bk_ BK240.out)) : gb259 ≠ gb240)); have n11_ := Aside0.mk ((by rw [hg]; exact Nat.ne_of_lt (blk_lt (bk_ BK253.out)) : gb253 ≠ gb259)); have n12_ := Aside0.mk ((by rw [hg]; exact Nat.ne_of_gt (blk_lt (bk_ BK253.out)) : gb259 ≠ gb253)); clear HO245; clear HO250; clear HO257; clear BK240; clear BK253; clear HB; have HO245 := n0_; have HO250 := n1_; have HO257 := n2_; have BK240 := n3_; have BK253 := n4_; have HB := n5_; have BK259 := n6_; have GW259 := n7_; have GE259 := n8_; have NB240_259 := n9_; have NB259_240 := n10_; have NB253_259 := n11_; have NB259_253 := n12_; clear n0_ n1_ n2_ n3_ n4_ n5_ n6_ n7_ n8_ n9_ n10_ n11_ n12_; clear hb hbox hg; have hnb28 := NB259_240.out; have hnc28 := NB240_259.out; have hnb29 := NB259_253.out; have hnc29 := NB253_259.out; have hcz30_0 := cq_ BK259.out 0 (.int .i64 0); have hcz30_1 := cq_ BK259.out 1 (.slice none 0 0); have hcz30_2 := cq_ BK259.out 2 (.int .i64 0); have hfz30_0 := blk_frozen BK259.out 0; have hfz30_1 := blk_frozen BK259.out 1; have hfz30_2 := blk_frozen BK259.out 2; obtain ⟨Ao31, co31, eo31⟩ := Kd.R_slice HO257.out; subst eo31) | ((with_reducible refine gate_callee (f := 32) rfl ?_); refine goesL_ (some 37) rfl rfl Try.func32 (by kernel_rfl) rfl #[.agg #[.int .i64 t254, .slice Ao31 t255.length co31, .int .i64 t258], .int .i64 a1, .bool a2] rfl (by (try simp only [List.map_toArray, List.map_cons, List.map_nil]); first | done | rfl | (simp only [List.length_drop, List.length_take]; rfl)) ?_; (with_reducible refine (impl_FixVar.calls k t254 _ _ t255 t258 a1 a2 t260 t261 t264 t265 _ ?side1 ?side2 A12.out).mono ?_); (case side1 => refine (Kd.R_reads' (e := 75) (base := w.heap.size) (ok := fun k_ => ((True ∧ some k_ ≠ (.slice Ao19 t243.length co19 : Value).ownBlock) ∧ some k_ ≠ (.slice Ao24 t248.length co24 : Value).ownBlock)) (n := t255.length) (c := co31) ?_).2.2; exact (rq_ ((Kd.R_mono (Kd.R_far (p := ⟨gb259, 2, none⟩) (Kd.R_far (p := ⟨gb259, 1, none⟩) (Kd.R_far (p := ⟨gb259, 0, none⟩) (Kd.R_types HO257.out BK259.out (by decide)) (fun _ hk => hk.2) (.int .i64 t254)) (fun _ hk => hk.2) (.slice Ao31 t255.length co31)) (fun _ hk => hk.2) (.int .i64 t258)) (fun _ h_ => h_.1))))); (case side2 => exact (Kd.R_reads' HO257.out).2.1); rintro e w32 ⟨v262, rfl, ho0, hb⟩; refine ⟨_, rfl, ?_⟩; have n0_ := Aside0.mk (Kd.R_elder' (rq_ ((Kd.R_mono (Kd.R_far (p := ⟨gb259, 2, none⟩) (Kd.R_far (p := ⟨gb259, 1, none⟩) (Kd.R_far (p := ⟨gb259, 0, none⟩) (Kd.R_types HO245.out BK259.out (by decide)) (fun _ hk => hk.2) (.int .i64 t254)) (fun _ hk => hk.2) (.slice Ao31 t255.length co31)) (fun _ hk => hk.2) (.int .i64 t258)) (fun _ h_ => h_.1)))) (Kd.R_base ho0) hb); have n1_ := Aside0.mk (Kd.R_elder' (rq_ ((Kd.R_mono (Kd.R_far (p := ⟨gb259, 2, none⟩) (Kd.R_far (p := ⟨gb259, 1, none⟩) (Kd.R_far (p := ⟨gb259, 0, none⟩) (Kd.R_types HO250.out BK259.out (by decide)) (fun _ hk => hk.2) (.int .i64 t254)) (fun _ hk => hk.2) (.slice Ao31 t255.length co31)) (fun _ hk => hk.2) (.int .i64 t258)) (fun _ h_ => h_.1)))) (Kd.R_base ho0) hb); have n2_ := Aside0.mk (Kd.R_elder' (rq_ ((Kd.R_mono (Kd.R_far (p := ⟨gb259, 2, none⟩) (Kd.R_far (p := ⟨gb259, 1, none⟩) (Kd.R_far (p := ⟨gb259, 0, none⟩) (Kd.R_types HO257.out BK259.out (by decide)) (fun _ hk => hk.2) (.int .i64 t254)) (fun _ hk => hk.2) (.slice Ao31 t255.length co31)) (fun _ hk => hk.2) (.int .i64 t258)) (fun _ h_ => h_.1)))) (Kd.R_base ho0) hb); have n3_ := Aside0.mk (Kd.R_lower (Kd.R_new' (Kd.R_new' (Kd.R_new' ho0 (Kd.R_lt (rq_ ((Kd.R_mono (Kd.R_far (p := ⟨gb259, 2, none⟩) (Kd.R_far (p := ⟨gb259, 1, none⟩) (Kd.R_far (p := ⟨gb259, 0, none⟩) (Kd.R_types HO245.out BK259.out (by decide)) (fun _ hk => hk.2) (.int .i64 t254)) (fun _ hk => hk.2) (.slice Ao31 t255.length co31)) (fun _ hk => hk.2) (.int .i64 t258)) (fun _ h_ => h_.1)))))) (Kd.R_lt (rq_ ((Kd.R_mono (Kd.R_far (p := ⟨gb259, 2, none⟩) (Kd.R_far (p := ⟨gb259, 1, none⟩) (Kd.R_far (p := ⟨gb259, 0, none⟩) (Kd.R_types HO250.out BK259.out (by decide)) (fun _ hk => hk.2) (.int .i64 t254)) (fun _ hk => hk.2) (.slice Ao31 t255.length co31)) (fun _ hk => hk.2) (.int .i64 t258)) (fun _ h_ => h_.1)))))) (Kd.R_lt (rq_ ((Kd.R_mono (Kd.R_far (p := ⟨gb259, 2, none⟩) (Kd.R_far (p := ⟨gb259, 1, none⟩) (Kd.R_far (p := ⟨gb259, 0, none⟩) (Kd.R_types HO257.out BK259.out (by decide)) (fun _ hk => hk.2) (.int .i64 t254)) (fun _ hk => hk.2) (.slice Ao31 t255.length co31)) (fun _ hk => hk.2) (.int .i64 t258)) (fun _ h_ => h_.1)))))) (below_size (bq_))); have n4_ := Aside0.mk (blk_below (g := gb240) (o := .cells #[.int .i64 a0_0, .slice A0_1 l0_1.length c0_1, .int .i64 a0_2] 24 (0, 0)) (by (with_reducible repeat (first | refine blk_drewN ?_ _ | refine blk_drew ?_ | refine blk_alloc ?_ _)); refine blk_far ?_ NB240_259.out _; (with_reducible repeat (first | refine blk_drewN ?_ _ | refine blk_drew ?_ | refine blk_alloc ?_ _)); refine blk_far ?_ NB240_259.out _; (with_reducible repeat (first | refine blk_drewN ?_ _ | refine blk_drew ?_ | refine blk_alloc ?_ _)); refine blk_far ?_ NB240_259.out _; (with_reducible repeat (first | refine blk_drewN ?_ _ | refine blk_drew ?_ | refine blk_alloc ?_ _)); exact BK240.out) hb); have n5_ := Aside0.mk (blk_below (g := gb253) (o := .cells #[.int .i64 t247, .slice Ao24 t248.length co24, .int .i64 t251] 30 (0, 0)) (by (with_reducible repeat (first | refine blk_drewN ?_ _ | refine blk_drew ?_ | refine blk_alloc ?_ _)); refine blk_far ?_ NB253_259.out _; (with_reducible repeat (first | refine blk_drewN ?_ _ | refine blk_drew ?_ | refine blk_alloc ?_ _)); refine blk_far ?_ NB253_259.out _; (with_reducible repeat (first | refine blk_drewN ?_ _ | refine blk_drew ?_ | refine blk_alloc ?_ _)); refine blk_far ?_ NB253_259.out _; (with_reducible repeat (first | refine blk_drewN ?_ _ | refine blk_drew ?_ | refine blk_alloc ?_ _)); exact BK253.out) hb); have n6_ := Aside0.mk (blk_below (g := gb259) (o := .cells #[.int .i64 t254, .slice Ao31 t255.length co31, .int .i64 t258] 30 (0, 0)) (by (with_reducible repeat (first | refine blk_drewN ?_ _ | refine blk_drew ?_ | refine blk_alloc ?_ _)); refine blk_put (cs := #[.int .i64 t254, .slice Ao31 t255.length co31, .int .i64 0]) ?_ 2 _ rfl; (with_reducible repeat (first | refine blk_drewN ?_ _ | refine blk_drew ?_ | refine blk_alloc ?_ _)); refine blk_put (cs := #[.int .i64 t254, .slice none 0 0, .int .i64 0]) ?_ 1 _ rfl; (with_reducible repeat (first | refine blk_drewN ?_ _ | refine blk_drew ?_ | refine blk_alloc ?_ _)); refine blk_put (cs := #[.int .i64 0, .slice none 0 0, .int .i64 0]) ?_ 0 _ rfl; (with_reducible repeat (first | refine blk_drewN ?_ _ | refine blk_drew ?_ | refine blk_alloc ?_ _)); exact BK259.out) hb); have n7_ := Aside0.mk (below_step (bq_) hb); clear HO245; clear HO250; clear HO257; clear BK240; clear BK253; clear BK259; clear HB; have HO245 := n0_; have HO250 := n1_; have HO257 := n2_; have HO263 := n3_; have BK240 := n4_; have BK253 := n5_; have BK259 := n6_; have HB := n7_; clear n0_ n1_ n2_ n3_ n4_ n5_ n6_ n7_; (try clear hb); (try clear hb2); (try clear hk); (try clear hi); (try clear ho0)) | ((with_reducible refine gate_dst (N := 11) rfl ?_); refine boxq_ (N := 11) (cs := #[.int .i64 0, .slice none 0 0, .int .i64 0]) (t := 30) ?_; intro gb266 hg w33 hbox hb; have n0_ := Aside0.mk (Kd.R_below (rq_ HO245.out) hb); have n1_ := Aside0.mk (Kd.R_below (rq_ HO250.out) hb); have n2_ := Aside0.mk (Kd.R_below (rq_ HO257.out) hb); have n3_ := Aside0.mk (Kd.R_below (rq_ HO263.out) hb); have n4_ := Aside0.mk (blk_below (bk_ BK240.out) hb); have n5_ := Aside0.mk (blk_below (bk_ BK253.out) hb); have n6_ := Aside0.mk (blk_below (bk_ BK259.out) hb); have n7_ := Aside0.mk (below_step (bq_) hb); have n8_ := Aside0.mk (hbox); have n9_ := Aside0.mk ((by rw [hg]; exact (below_size (bq_)) : w.heap.size ≤ gb266)); have n10_ := Aside0.mk ((by rw [hg]; exact (below_size (bq_)) : w.heap.size ≤ gb266)); have n11_ := Aside0.mk ((by rw [hg]; exact Nat.ne_of_lt (blk_lt (bk_ BK240.out)) : gb240 ≠ gb266)); have n12_ := Aside0.mk ((by rw [hg]; exact Nat.ne_of_gt (blk_lt (bk_ BK240.out)) : gb266 ≠ gb240)); have n13_ := Aside0.mk ((by rw [hg]; exact Nat.ne_of_lt (blk_lt (bk_ BK253.out)) : gb253 ≠ gb266)); have n14_ := Aside0.mk ((by rw [hg]; exact Nat.ne_of_gt (blk_lt (bk_ BK253.out)) : gb266 ≠ gb253)); have n15_ := Aside0.mk ((by rw [hg]; exact Nat.ne_of_lt (blk_lt (bk_ BK259.out)) : gb259 ≠ gb266)); have n16_ := Aside0.mk ((by rw [hg]; exact Nat.ne_of_gt (blk_lt (bk_ BK259.out)) : gb266 ≠ gb259)); clear HO245; clear HO250; clear HO257; clear HO263; clear BK240; clear BK253; clear BK259; clear HB; have HO245 := n0_; have HO250 := n1_; have HO257 := n2_; have HO263 := n3_; have BK240 := n4_; have BK253 := n5_; have BK259 := n6_; have HB := n7_; have BK266 := n8_; have GW266 := n9_; have GE266 := n10_; have NB240_266 := n11_; have NB266_240 := n12_; have NB253_266 := n13_; have NB266_253 := n14_; have NB259_266 := n15_; have NB266_259 := n16_; clear n0_ n1_ n2_ n3_ n4_ n5_ n6_ n7_ n8_ n9_ n10_ n11_ n12_ n13_ n14_ n15_ n16_; clear hb hbox hg; have hnb34 := NB266_240.out; have hnc34 := NB240_266.out; have hnb35 := NB266_253.out; have hnc35 := NB253_266.out; have hnb36 := NB266_259.out; have hnc36 := NB259_266.out; have hcz37_0 := cq_ BK266.out 0 (.int .i64 0); have hcz37_1 := cq_ BK266.out 1 (.slice none 0 0); have hcz37_2 := cq_ BK266.out 2 (.int .i64 0); have hfz37_0 := blk_frozen BK266.out 0; have hfz37_1 := blk_frozen BK266.out 1; have hfz37_2 := blk_frozen BK266.out 2; obtain ⟨Ao38, co38, eo38⟩ := Kd.R_slice HO263.out; subst eo38))
    (try simp only [Act.put, List.setIfInBounds_toArray, List.set_cons_zero, List.set_cons_succ])
    go_cut [48] (fun v48 wc => ∃ (kq : Nat) (x48_12 : Bool), v48 = .bool x48_12 ∧ Aside0 (laws_FnExactFixVar.j0 kq a1 a2 t252 t265 x48_12 a0_0 l0_1 a0_2 t247 t248 t251 t254 t255 t258 t260 t261 t264 = some r) ∧ Aside0 (kq ≤ k) ∧ Aside0 (Kd.R k75 75 wc w.heap.size (fun k_ => some k_ ≠ ((.slice Ao31 t255.length co31) : Value).ownBlock ∧ some k_ ≠ ((.slice Ao38 t261.length co38) : Value).ownBlock) (.slice Ao24 t248.length co24) t248) ∧ Aside0 (Kd.R k75 75 wc w.heap.size (fun k_ => some k_ ≠ ((.slice Ao24 t248.length co24) : Value).ownBlock ∧ some k_ ≠ ((.slice Ao38 t261.length co38) : Value).ownBlock) (.slice Ao31 t255.length co31) t255) ∧ Aside0 (Kd.R k75 75 wc w.heap.size (fun k_ => some k_ ≠ ((.slice Ao24 t248.length co24) : Value).ownBlock ∧ some k_ ≠ ((.slice Ao31 t255.length co31) : Value).ownBlock) (.slice Ao38 t261.length co38) t261) ∧ Aside0 (wc.heap[gb240]? = some (.cells #[.int .i64 a0_0, (.slice A0_1 l0_1.length c0_1), .int .i64 a0_2] 24 (0, 0))) ∧ Aside0 (wc.heap[gb253]? = some (.cells #[.int .i64 t247, (.slice Ao24 t248.length co24), .int .i64 t251] 30 (0, 0))) ∧ Aside0 (wc.heap[gb259]? = some (.cells #[.int .i64 t254, (.slice Ao31 t255.length co31), .int .i64 t258] 30 (0, 0))) ∧ Aside0 (wc.heap[gb266]? = some (.cells #[.int .i64 t260, (.slice Ao38 t261.length co38), .int .i64 t264] 30 (0, 0))) ∧ Aside0 (Below w.heap.size w wc))
    case first =>
      have H := HC13.out
      clear HC13
      replace H := Option.bind_eq_some_iff.mp H
      obtain ⟨t267, A390, H⟩ := H
      replace H : (if t267 = true then (laws_FnExactFixVar.j0 k a1 a2 t252 t265 (t265 != t252) a0_0 l0_1 a0_2 t247 t248 t251 t254 t255 t258 t260 t261 t264) else (laws_FnExactFixVar.j0 k a1 a2 t252 t265 true a0_0 l0_1 a0_2 t247 t248 t251 t254 t255 t258 t260 t261 t264)) = some r := H
      have A39 := Aside0.mk A390
      clear A390
      by_cases c40 : t267 = true
      · subst c40
        have H1 : (laws_FnExactFixVar.j0 k a1 a2 t252 t265 (t265 != t252) a0_0 l0_1 a0_2 t247 t248 t251 t254 t255 t258 t260 t261 t264) = some r := by rw [if_pos rfl] at H; exact H
        clear H
        have H := H1
        clear H1
        have H' := Aside0.mk H
        clear H
        have hnb41 := NB266_240.out
        have hnc41 := NB240_266.out
        have hnb42 := NB266_253.out
        have hnc42 := NB253_266.out
        have hnb43 := NB266_259.out
        have hnc43 := NB259_266.out
        have hcz44_0 := cq_ BK266.out 0 (.int .i64 0)
        have hcz44_1 := cq_ BK266.out 1 (.slice none 0 0)
        have hcz44_2 := cq_ BK266.out 2 (.int .i64 0)
        have hfz44_0 := blk_frozen BK266.out 0
        have hfz44_1 := blk_frozen BK266.out 1
        have hfz44_2 := blk_frozen BK266.out 2
        have hnb45 := NB253_240.out
        have hnc45 := NB240_253.out
        have hnb46 := NB253_259.out
        have hnc46 := NB259_253.out
        have hcz47_0 := cq_ BK253.out 0 (.int .i64 t247)
        have hcz47_1 := cq_ BK253.out 1 (.slice Ao24 t248.length co24)
        have hcz47_2 := cq_ BK253.out 2 (.int .i64 t251)
        have hfz47_0 := blk_frozen BK253.out 0
        have hfz47_1 := blk_frozen BK253.out 1
        have hfz47_2 := blk_frozen BK253.out 2
        go_wp2_with (first | ((with_reducible refine gate_callee (f := 16) rfl ?_); refine goesL_ (some 42) rfl rfl Try.func16 (by kernel_rfl) rfl #[.agg #[.int .i64 t260, .slice Ao38 t261.length co38, .int .i64 t264], .agg #[.int .i64 t247, .slice Ao24 t248.length co24, .int .i64 t251]] rfl (by (try simp only [List.map_toArray, List.map_cons, List.map_nil]); first | done | rfl | (simp only [List.length_drop, List.length_take]; rfl)) ?_; (with_reducible refine (laws_eqDiagram.calls k t260 _ _ t261 t264 t247 _ _ t248 t251 true _ ?side1 ?side2 ?side3 ?side4 A39.out).mono ?_); (case side1 => refine (Kd.R_reads' (e := 75) (base := w.heap.size) (ok := fun k_ => (((True ∧ some k_ ≠ (.slice Ao19 t243.length co19 : Value).ownBlock) ∧ some k_ ≠ (.slice Ao24 t248.length co24 : Value).ownBlock) ∧ some k_ ≠ (.slice Ao31 t255.length co31 : Value).ownBlock)) (n := t261.length) (c := co38) ?_).2.2; exact (rq_ ((Kd.R_mono (Kd.R_far (p := ⟨gb266, 2, none⟩) (Kd.R_far (p := ⟨gb266, 1, none⟩) (Kd.R_far (p := ⟨gb266, 0, none⟩) (Kd.R_types HO263.out BK266.out (by decide)) (fun _ hk => hk.2) (.int .i64 t260)) (fun _ hk => hk.2) (.slice Ao38 t261.length co38)) (fun _ hk => hk.2) (.int .i64 t264)) (fun _ h_ => h_.1))))); (case side2 => exact (Kd.R_reads' HO263.out).2.1); (case side3 => refine (Kd.R_reads' (e := 75) (base := w.heap.size) (ok := fun k_ => (((True ∧ some k_ ≠ (.slice Ao19 t243.length co19 : Value).ownBlock) ∧ some k_ ≠ (.slice Ao31 t255.length co31 : Value).ownBlock) ∧ some k_ ≠ (.slice Ao38 t261.length co38 : Value).ownBlock)) (n := t248.length) (c := co24) ?_).2.2; exact (rq_ ((Kd.R_mono (Kd.R_far (p := ⟨gb266, 2, none⟩) (Kd.R_far (p := ⟨gb266, 1, none⟩) (Kd.R_far (p := ⟨gb266, 0, none⟩) (Kd.R_types HO250.out BK266.out (by decide)) (fun _ hk => hk.2) (.int .i64 t260)) (fun _ hk => hk.2) (.slice Ao38 t261.length co38)) (fun _ hk => hk.2) (.int .i64 t264)) (fun _ h_ => h_.1))))); (case side4 => exact (Kd.R_reads' HO250.out).2.1); rintro e w48 ⟨rfl, hb⟩; refine ⟨_, rfl, ?_⟩; have n0_ := Aside0.mk (Kd.R_below (rq_ ((Kd.R_mono (Kd.R_far (p := ⟨gb266, 2, none⟩) (Kd.R_far (p := ⟨gb266, 1, none⟩) (Kd.R_far (p := ⟨gb266, 0, none⟩) (Kd.R_types HO245.out BK266.out (by decide)) (fun _ hk => hk.2) (.int .i64 t260)) (fun _ hk => hk.2) (.slice Ao38 t261.length co38)) (fun _ hk => hk.2) (.int .i64 t264)) (fun _ h_ => h_.1)))) hb); have n1_ := Aside0.mk (Kd.R_below (rq_ ((Kd.R_mono (Kd.R_far (p := ⟨gb266, 2, none⟩) (Kd.R_far (p := ⟨gb266, 1, none⟩) (Kd.R_far (p := ⟨gb266, 0, none⟩) (Kd.R_types HO250.out BK266.out (by decide)) (fun _ hk => hk.2) (.int .i64 t260)) (fun _ hk => hk.2) (.slice Ao38 t261.length co38)) (fun _ hk => hk.2) (.int .i64 t264)) (fun _ h_ => h_.1)))) hb); have n2_ := Aside0.mk (Kd.R_below (rq_ ((Kd.R_mono (Kd.R_far (p := ⟨gb266, 2, none⟩) (Kd.R_far (p := ⟨gb266, 1, none⟩) (Kd.R_far (p := ⟨gb266, 0, none⟩) (Kd.R_types HO257.out BK266.out (by decide)) (fun _ hk => hk.2) (.int .i64 t260)) (fun _ hk => hk.2) (.slice Ao38 t261.length co38)) (fun _ hk => hk.2) (.int .i64 t264)) (fun _ h_ => h_.1)))) hb); have n3_ := Aside0.mk (Kd.R_below (rq_ ((Kd.R_mono (Kd.R_far (p := ⟨gb266, 2, none⟩) (Kd.R_far (p := ⟨gb266, 1, none⟩) (Kd.R_far (p := ⟨gb266, 0, none⟩) (Kd.R_types HO263.out BK266.out (by decide)) (fun _ hk => hk.2) (.int .i64 t260)) (fun _ hk => hk.2) (.slice Ao38 t261.length co38)) (fun _ hk => hk.2) (.int .i64 t264)) (fun _ h_ => h_.1)))) hb); have n4_ := Aside0.mk (blk_below (g := gb240) (o := .cells #[.int .i64 a0_0, .slice A0_1 l0_1.length c0_1, .int .i64 a0_2] 24 (0, 0)) (by (with_reducible repeat (first | refine blk_drewN ?_ _ | refine blk_drew ?_ | refine blk_alloc ?_ _)); refine blk_far ?_ NB240_266.out _; (with_reducible repeat (first | refine blk_drewN ?_ _ | refine blk_drew ?_ | refine blk_alloc ?_ _)); refine blk_far ?_ NB240_266.out _; (with_reducible repeat (first | refine blk_drewN ?_ _ | refine blk_drew ?_ | refine blk_alloc ?_ _)); refine blk_far ?_ NB240_266.out _; (with_reducible repeat (first | refine blk_drewN ?_ _ | refine blk_drew ?_ | refine blk_alloc ?_ _)); exact BK240.out) hb); have n5_ := Aside0.mk (blk_below (g := gb253) (o := .cells #[.int .i64 t247, .slice Ao24 t248.length co24, .int .i64 t251] 30 (0, 0)) (by (with_reducible repeat (first | refine blk_drewN ?_ _ | refine blk_drew ?_ | refine blk_alloc ?_ _)); refine blk_far ?_ NB253_266.out _; (with_reducible repeat (first | refine blk_drewN ?_ _ | refine blk_drew ?_ | refine blk_alloc ?_ _)); refine blk_far ?_ NB253_266.out _; (with_reducible repeat (first | refine blk_drewN ?_ _ | refine blk_drew ?_ | refine blk_alloc ?_ _)); refine blk_far ?_ NB253_266.out _; (with_reducible repeat (first | refine blk_drewN ?_ _ | refine blk_drew ?_ | refine blk_alloc ?_ _)); exact BK253.out) hb); have n6_ := Aside0.mk (blk_below (g := gb259) (o := .cells #[.int .i64 t254, .slice Ao31 t255.length co31, .int .i64 t258] 30 (0, 0)) (by (with_reducible repeat (first | refine blk_drewN ?_ _ | refine blk_drew ?_ | refine blk_alloc ?_ _)); refine blk_far ?_ NB259_266.out _; (with_reducible repeat (first | refine blk_drewN ?_ _ | refine blk_drew ?_ | refine blk_alloc ?_ _)); refine blk_far ?_ NB259_266.out _; (with_reducible repeat (first | refine blk_drewN ?_ _ | refine blk_drew ?_ | refine blk_alloc ?_ _)); refine blk_far ?_ NB259_266.out _; (with_reducible repeat (first | refine blk_drewN ?_ _ | refine blk_drew ?_ | refine blk_alloc ?_ _)); exact BK259.out) hb); have n7_ := Aside0.mk (blk_below (g := gb266) (o := .cells #[.int .i64 t260, .slice Ao38 t261.length co38, .int .i64 t264] 30 (0, 0)) (by (with_reducible repeat (first | refine blk_drewN ?_ _ | refine blk_drew ?_ | refine blk_alloc ?_ _)); refine blk_put (cs := #[.int .i64 t260, .slice Ao38 t261.length co38, .int .i64 0]) ?_ 2 _ rfl; (with_reducible repeat (first | refine blk_drewN ?_ _ | refine blk_drew ?_ | refine blk_alloc ?_ _)); refine blk_put (cs := #[.int .i64 t260, .slice none 0 0, .int .i64 0]) ?_ 1 _ rfl; (with_reducible repeat (first | refine blk_drewN ?_ _ | refine blk_drew ?_ | refine blk_alloc ?_ _)); refine blk_put (cs := #[.int .i64 0, .slice none 0 0, .int .i64 0]) ?_ 0 _ rfl; (with_reducible repeat (first | refine blk_drewN ?_ _ | refine blk_drew ?_ | refine blk_alloc ?_ _)); exact BK266.out) hb); have n8_ := Aside0.mk (below_step (bq_) hb); clear HO245; clear HO250; clear HO257; clear HO263; clear BK240; clear BK253; clear BK259; clear BK266; clear HB; have HO245 := n0_; have HO250 := n1_; have HO257 := n2_; have HO263 := n3_; have BK240 := n4_; have BK253 := n5_; have BK259 := n6_; have BK266 := n7_; have HB := n8_; clear n0_ n1_ n2_ n3_ n4_ n5_ n6_ n7_ n8_; (try clear hb); (try clear hb2); (try clear hk); (try clear hi)))
        go_meet
        case rel => exact ⟨_, ((t265 != t252)), (by first | rfl | (simp; done) | (simp [*]; done)), H', ⟨by first | omega | exact Nat.le_refl _⟩, ⟨rq_ (Kd.R_mono HO250.out (fun _ hk => ⟨hk.1.2, hk.2⟩))⟩, ⟨rq_ (Kd.R_mono HO257.out (fun _ hk => ⟨hk.1.2, hk.2⟩))⟩, ⟨rq_ (Kd.R_mono HO263.out (fun _ hk => ⟨hk.1.2, hk.2⟩))⟩, ⟨bk_ BK240.out⟩, ⟨bk_ BK253.out⟩, ⟨bk_ BK259.out⟩, ⟨bk_ BK266.out⟩, ⟨bq_⟩⟩
      · replace c40 := Bool.eq_false_iff.mpr c40
        subst c40
        have H1 : (laws_FnExactFixVar.j0 k a1 a2 t252 t265 true a0_0 l0_1 a0_2 t247 t248 t251 t254 t255 t258 t260 t261 t264) = some r := by rw [if_neg (show ¬ (false = true) by decide)] at H; exact H
        clear H
        have H := H1
        clear H1
        have H' := Aside0.mk H
        clear H
        have hnb49 := NB266_240.out
        have hnc49 := NB240_266.out
        have hnb50 := NB266_253.out
        have hnc50 := NB253_266.out
        have hnb51 := NB266_259.out
        have hnc51 := NB259_266.out
        have hcz52_0 := cq_ BK266.out 0 (.int .i64 0)
        have hcz52_1 := cq_ BK266.out 1 (.slice none 0 0)
        have hcz52_2 := cq_ BK266.out 2 (.int .i64 0)
        have hfz52_0 := blk_frozen BK266.out 0
        have hfz52_1 := blk_frozen BK266.out 1
        have hfz52_2 := blk_frozen BK266.out 2
        have hnb53 := NB253_240.out
        have hnc53 := NB240_253.out
        have hnb54 := NB253_259.out
        have hnc54 := NB259_253.out
        have hcz55_0 := cq_ BK253.out 0 (.int .i64 t247)
        have hcz55_1 := cq_ BK253.out 1 (.slice Ao24 t248.length co24)
        have hcz55_2 := cq_ BK253.out 2 (.int .i64 t251)
        have hfz55_0 := blk_frozen BK253.out 0
        have hfz55_1 := blk_frozen BK253.out 1
        have hfz55_2 := blk_frozen BK253.out 2
        go_wp2_with (first | ((with_reducible refine gate_callee (f := 16) rfl ?_); refine goesL_ (some 42) rfl rfl Try.func16 (by kernel_rfl) rfl #[.agg #[.int .i64 t260, .slice Ao38 t261.length co38, .int .i64 t264], .agg #[.int .i64 t247, .slice Ao24 t248.length co24, .int .i64 t251]] rfl (by (try simp only [List.map_toArray, List.map_cons, List.map_nil]); first | done | rfl | (simp only [List.length_drop, List.length_take]; rfl)) ?_; (with_reducible refine (laws_eqDiagram.calls k t260 _ _ t261 t264 t247 _ _ t248 t251 false _ ?side1 ?side2 ?side3 ?side4 A39.out).mono ?_); (case side1 => refine (Kd.R_reads' (e := 75) (base := w.heap.size) (ok := fun k_ => (((True ∧ some k_ ≠ (.slice Ao19 t243.length co19 : Value).ownBlock) ∧ some k_ ≠ (.slice Ao24 t248.length co24 : Value).ownBlock) ∧ some k_ ≠ (.slice Ao31 t255.length co31 : Value).ownBlock)) (n := t261.length) (c := co38) ?_).2.2; exact (rq_ ((Kd.R_mono (Kd.R_far (p := ⟨gb266, 2, none⟩) (Kd.R_far (p := ⟨gb266, 1, none⟩) (Kd.R_far (p := ⟨gb266, 0, none⟩) (Kd.R_types HO263.out BK266.out (by decide)) (fun _ hk => hk.2) (.int .i64 t260)) (fun _ hk => hk.2) (.slice Ao38 t261.length co38)) (fun _ hk => hk.2) (.int .i64 t264)) (fun _ h_ => h_.1))))); (case side2 => exact (Kd.R_reads' HO263.out).2.1); (case side3 => refine (Kd.R_reads' (e := 75) (base := w.heap.size) (ok := fun k_ => (((True ∧ some k_ ≠ (.slice Ao19 t243.length co19 : Value).ownBlock) ∧ some k_ ≠ (.slice Ao31 t255.length co31 : Value).ownBlock) ∧ some k_ ≠ (.slice Ao38 t261.length co38 : Value).ownBlock)) (n := t248.length) (c := co24) ?_).2.2; exact (rq_ ((Kd.R_mono (Kd.R_far (p := ⟨gb266, 2, none⟩) (Kd.R_far (p := ⟨gb266, 1, none⟩) (Kd.R_far (p := ⟨gb266, 0, none⟩) (Kd.R_types HO250.out BK266.out (by decide)) (fun _ hk => hk.2) (.int .i64 t260)) (fun _ hk => hk.2) (.slice Ao38 t261.length co38)) (fun _ hk => hk.2) (.int .i64 t264)) (fun _ h_ => h_.1))))); (case side4 => exact (Kd.R_reads' HO250.out).2.1); rintro e w56 ⟨rfl, hb⟩; refine ⟨_, rfl, ?_⟩; have n0_ := Aside0.mk (Kd.R_below (rq_ ((Kd.R_mono (Kd.R_far (p := ⟨gb266, 2, none⟩) (Kd.R_far (p := ⟨gb266, 1, none⟩) (Kd.R_far (p := ⟨gb266, 0, none⟩) (Kd.R_types HO245.out BK266.out (by decide)) (fun _ hk => hk.2) (.int .i64 t260)) (fun _ hk => hk.2) (.slice Ao38 t261.length co38)) (fun _ hk => hk.2) (.int .i64 t264)) (fun _ h_ => h_.1)))) hb); have n1_ := Aside0.mk (Kd.R_below (rq_ ((Kd.R_mono (Kd.R_far (p := ⟨gb266, 2, none⟩) (Kd.R_far (p := ⟨gb266, 1, none⟩) (Kd.R_far (p := ⟨gb266, 0, none⟩) (Kd.R_types HO250.out BK266.out (by decide)) (fun _ hk => hk.2) (.int .i64 t260)) (fun _ hk => hk.2) (.slice Ao38 t261.length co38)) (fun _ hk => hk.2) (.int .i64 t264)) (fun _ h_ => h_.1)))) hb); have n2_ := Aside0.mk (Kd.R_below (rq_ ((Kd.R_mono (Kd.R_far (p := ⟨gb266, 2, none⟩) (Kd.R_far (p := ⟨gb266, 1, none⟩) (Kd.R_far (p := ⟨gb266, 0, none⟩) (Kd.R_types HO257.out BK266.out (by decide)) (fun _ hk => hk.2) (.int .i64 t260)) (fun _ hk => hk.2) (.slice Ao38 t261.length co38)) (fun _ hk => hk.2) (.int .i64 t264)) (fun _ h_ => h_.1)))) hb); have n3_ := Aside0.mk (Kd.R_below (rq_ ((Kd.R_mono (Kd.R_far (p := ⟨gb266, 2, none⟩) (Kd.R_far (p := ⟨gb266, 1, none⟩) (Kd.R_far (p := ⟨gb266, 0, none⟩) (Kd.R_types HO263.out BK266.out (by decide)) (fun _ hk => hk.2) (.int .i64 t260)) (fun _ hk => hk.2) (.slice Ao38 t261.length co38)) (fun _ hk => hk.2) (.int .i64 t264)) (fun _ h_ => h_.1)))) hb); have n4_ := Aside0.mk (blk_below (g := gb240) (o := .cells #[.int .i64 a0_0, .slice A0_1 l0_1.length c0_1, .int .i64 a0_2] 24 (0, 0)) (by (with_reducible repeat (first | refine blk_drewN ?_ _ | refine blk_drew ?_ | refine blk_alloc ?_ _)); refine blk_far ?_ NB240_266.out _; (with_reducible repeat (first | refine blk_drewN ?_ _ | refine blk_drew ?_ | refine blk_alloc ?_ _)); refine blk_far ?_ NB240_266.out _; (with_reducible repeat (first | refine blk_drewN ?_ _ | refine blk_drew ?_ | refine blk_alloc ?_ _)); refine blk_far ?_ NB240_266.out _; (with_reducible repeat (first | refine blk_drewN ?_ _ | refine blk_drew ?_ | refine blk_alloc ?_ _)); exact BK240.out) hb); have n5_ := Aside0.mk (blk_below (g := gb253) (o := .cells #[.int .i64 t247, .slice Ao24 t248.length co24, .int .i64 t251] 30 (0, 0)) (by (with_reducible repeat (first | refine blk_drewN ?_ _ | refine blk_drew ?_ | refine blk_alloc ?_ _)); refine blk_far ?_ NB253_266.out _; (with_reducible repeat (first | refine blk_drewN ?_ _ | refine blk_drew ?_ | refine blk_alloc ?_ _)); refine blk_far ?_ NB253_266.out _; (with_reducible repeat (first | refine blk_drewN ?_ _ | refine blk_drew ?_ | refine blk_alloc ?_ _)); refine blk_far ?_ NB253_266.out _; (with_reducible repeat (first | refine blk_drewN ?_ _ | refine blk_drew ?_ | refine blk_alloc ?_ _)); exact BK253.out) hb); have n6_ := Aside0.mk (blk_below (g := gb259) (o := .cells #[.int .i64 t254, .slice Ao31 t255.length co31, .int .i64 t258] 30 (0, 0)) (by (with_reducible repeat (first | refine blk_drewN ?_ _ | refine blk_drew ?_ | refine blk_alloc ?_ _)); refine blk_far ?_ NB259_266.out _; (with_reducible repeat (first | refine blk_drewN ?_ _ | refine blk_drew ?_ | refine blk_alloc ?_ _)); refine blk_far ?_ NB259_266.out _; (with_reducible repeat (first | refine blk_drewN ?_ _ | refine blk_drew ?_ | refine blk_alloc ?_ _)); refine blk_far ?_ NB259_266.out _; (with_reducible repeat (first | refine blk_drewN ?_ _ | refine blk_drew ?_ | refine blk_alloc ?_ _)); exact BK259.out) hb); have n7_ := Aside0.mk (blk_below (g := gb266) (o := .cells #[.int .i64 t260, .slice Ao38 t261.length co38, .int .i64 t264] 30 (0, 0)) (by (with_reducible repeat (first | refine blk_drewN ?_ _ | refine blk_drew ?_ | refine blk_alloc ?_ _)); refine blk_put (cs := #[.int .i64 t260, .slice Ao38 t261.length co38, .int .i64 0]) ?_ 2 _ rfl; (with_reducible repeat (first | refine blk_drewN ?_ _ | refine blk_drew ?_ | refine blk_alloc ?_ _)); refine blk_put (cs := #[.int .i64 t260, .slice none 0 0, .int .i64 0]) ?_ 1 _ rfl; (with_reducible repeat (first | refine blk_drewN ?_ _ | refine blk_drew ?_ | refine blk_alloc ?_ _)); refine blk_put (cs := #[.int .i64 0, .slice none 0 0, .int .i64 0]) ?_ 0 _ rfl; (with_reducible repeat (first | refine blk_drewN ?_ _ | refine blk_drew ?_ | refine blk_alloc ?_ _)); exact BK266.out) hb); have n8_ := Aside0.mk (below_step (bq_) hb); clear HO245; clear HO250; clear HO257; clear HO263; clear BK240; clear BK253; clear BK259; clear BK266; clear HB; have HO245 := n0_; have HO250 := n1_; have HO257 := n2_; have HO263 := n3_; have BK240 := n4_; have BK253 := n5_; have BK259 := n6_; have BK266 := n7_; have HB := n8_; clear n0_ n1_ n2_ n3_ n4_ n5_ n6_ n7_ n8_; (try clear hb); (try clear hb2); (try clear hk); (try clear hi)))
        go_meet
        case rel => exact ⟨_, (true), (by first | rfl | (simp; done) | (simp [*]; done)), H', ⟨by first | omega | exact Nat.le_refl _⟩, ⟨rq_ (Kd.R_mono HO250.out (fun _ hk => ⟨hk.1.2, hk.2⟩))⟩, ⟨rq_ (Kd.R_mono HO257.out (fun _ hk => ⟨hk.1.2, hk.2⟩))⟩, ⟨rq_ (Kd.R_mono HO263.out (fun _ hk => ⟨hk.1.2, hk.2⟩))⟩, ⟨bk_ BK240.out⟩, ⟨bk_ BK253.out⟩, ⟨bk_ BK259.out⟩, ⟨bk_ BK266.out⟩, ⟨bq_⟩⟩
    case rest =>
      clear HC13
      try clear c1
      try clear c2
      try clear p2
      try clear c3
      try clear c4
      try clear c5
      try clear c5b0
      try clear c8
      try clear c12
      try clear c14
      try clear c16
      try clear c22
      try clear c28
      try clear c29
      try clear c31
      try clear c32
      try clear c34
      try clear c35
      try clear c36
      try clear c40
      try clear c41
      try clear c42
      try clear c43
      try clear c45
      try clear c46
      try clear c49
      try clear c50
      try clear c51
      try clear c53
      try clear c54
      try clear hcz15_0
      try clear hcz15_1
      try clear hcz15_2
      try clear hcz17_0
      try clear hcz17_1
      try clear hcz17_2
      try clear hcz23_0
      try clear hcz23_1
      try clear hcz23_2
      try clear hcz25_0
      try clear hcz25_1
      try clear hcz25_2
      try clear hcz30_0
      try clear hcz30_1
      try clear hcz30_2
      try clear hcz37_0
      try clear hcz37_1
      try clear hcz37_2
      try clear hcz44_0
      try clear hcz44_1
      try clear hcz44_2
      try clear hcz47_0
      try clear hcz47_1
      try clear hcz47_2
      try clear hcz52_0
      try clear hcz52_1
      try clear hcz52_2
      try clear hcz55_0
      try clear hcz55_1
      try clear hcz55_2
      try clear hcz7_0
      try clear hcz7_1
      try clear hcz7_2
      try clear hfz15_0
      try clear hfz15_1
      try clear hfz15_2
      try clear hfz17_0
      try clear hfz17_1
      try clear hfz17_2
      try clear hfz23_0
      try clear hfz23_1
      try clear hfz23_2
      try clear hfz25_0
      try clear hfz25_1
      try clear hfz25_2
      try clear hfz30_0
      try clear hfz30_1
      try clear hfz30_2
      try clear hfz37_0
      try clear hfz37_1
      try clear hfz37_2
      try clear hfz44_0
      try clear hfz44_1
      try clear hfz44_2
      try clear hfz47_0
      try clear hfz47_1
      try clear hfz47_2
      try clear hfz52_0
      try clear hfz52_1
      try clear hfz52_2
      try clear hfz55_0
      try clear hfz55_1
      try clear hfz55_2
      try clear hfz7_0
      try clear hfz7_1
      try clear hfz7_2
      obtain ⟨kq, x48_12, rfl, HA, HJ12, HO_254001, HO_260001, HO_267001, BK240, BK253, BK259, BK266, HB⟩ := hcut
      cases kq with
      | zero => exact absurd HA.out (by simp [laws_FnExactFixVar.j0])
      | succ kj12 =>
        have H := HA.out
        clear HA
        simp only [laws_FnExactFixVar.j0] at H
        by_cases c57 : x48_12 = true
        · subst c57
          have H1 : (some false) = some r := by rw [if_pos rfl] at H; exact H
          clear H
          have H := H1
          clear H1
          exact absurd (Option.some.inj H).symm (by rw [hr_.out]; simp)
        · replace c57 := Bool.eq_false_iff.mpr c57
          subst c57
          have H1 : ((laws_toDiagram.f kj12 a0_0 l0_1 a0_2).bind fun bt268 => ((laws_eqDiagram.f kj12 t254 t255 t258 bt268.1 bt268.2.1 bt268.2.2).bind fun t273 => (if t273 = true then ((laws_markDiagram.f kj12 t254 t255 t258 1).bind fun bt274 => (if bt274.1 < 0 then (laws_FnExactFixVar.j1 kj12 a1 a2 t252 true a0_0 l0_1 a0_2 t247 t248 t251 t260 t261 t264) else ((laws_eqDiagram.f kj12 t260 t261 t264 t247 t248 t251).bind fun t276 => (if t276 = true then (laws_FnExactFixVar.j1 kj12 a1 a2 t252 (t265 != t252) a0_0 l0_1 a0_2 t247 t248 t251 t260 t261 t264) else (laws_FnExactFixVar.j1 kj12 a1 a2 t252 true a0_0 l0_1 a0_2 t247 t248 t251 t260 t261 t264))))) else (some false)))) = some r := by rw [if_neg (show ¬ (false = true) by decide)] at H; exact H
          clear H
          have H := H1
          clear H1
          replace H := Option.bind_eq_some_iff.mp H
          obtain ⟨⟨t268, t269, t272⟩, A580, H⟩ := H
          replace H : ((laws_eqDiagram.f kj12 t254 t255 t258 t268 t269 t272).bind fun t273 => (if t273 = true then ((laws_markDiagram.f kj12 t254 t255 t258 1).bind fun bt274 => (if bt274.1 < 0 then (laws_FnExactFixVar.j1 kj12 a1 a2 t252 true a0_0 l0_1 a0_2 t247 t248 t251 t260 t261 t264) else ((laws_eqDiagram.f kj12 t260 t261 t264 t247 t248 t251).bind fun t276 => (if t276 = true then (laws_FnExactFixVar.j1 kj12 a1 a2 t252 (t265 != t252) a0_0 l0_1 a0_2 t247 t248 t251 t260 t261 t264) else (laws_FnExactFixVar.j1 kj12 a1 a2 t252 true a0_0 l0_1 a0_2 t247 t248 t251 t260 t261 t264))))) else (some false))) = some r := H
          have A58 := Aside0.mk A580
          clear A580
          replace H := Option.bind_eq_some_iff.mp H
          obtain ⟨t273, A590, H⟩ := H
          replace H : (if t273 = true then ((laws_markDiagram.f kj12 t254 t255 t258 1).bind fun bt274 => (if bt274.1 < 0 then (laws_FnExactFixVar.j1 kj12 a1 a2 t252 true a0_0 l0_1 a0_2 t247 t248 t251 t260 t261 t264) else ((laws_eqDiagram.f kj12 t260 t261 t264 t247 t248 t251).bind fun t276 => (if t276 = true then (laws_FnExactFixVar.j1 kj12 a1 a2 t252 (t265 != t252) a0_0 l0_1 a0_2 t247 t248 t251 t260 t261 t264) else (laws_FnExactFixVar.j1 kj12 a1 a2 t252 true a0_0 l0_1 a0_2 t247 t248 t251 t260 t261 t264))))) else (some false)) = some r := H
          have A59 := Aside0.mk A590
          clear A590
          by_cases c60 : t273 = true
          · subst c60
            have H1 : ((laws_markDiagram.f kj12 t254 t255 t258 1).bind fun bt274 => (if bt274.1 < 0 then (laws_FnExactFixVar.j1 kj12 a1 a2 t252 true a0_0 l0_1 a0_2 t247 t248 t251 t260 t261 t264) else ((laws_eqDiagram.f kj12 t260 t261 t264 t247 t248 t251).bind fun t276 => (if t276 = true then (laws_FnExactFixVar.j1 kj12 a1 a2 t252 (t265 != t252) a0_0 l0_1 a0_2 t247 t248 t251 t260 t261 t264) else (laws_FnExactFixVar.j1 kj12 a1 a2 t252 true a0_0 l0_1 a0_2 t247 t248 t251 t260 t261 t264))))) = some r := by rw [if_pos rfl] at H; exact H
            clear H
            have H := H1
            clear H1
            replace H := Option.bind_eq_some_iff.mp H
            obtain ⟨⟨t274, t275⟩, A610, H⟩ := H
            replace H : (if t274 < 0 then (laws_FnExactFixVar.j1 kj12 a1 a2 t252 true a0_0 l0_1 a0_2 t247 t248 t251 t260 t261 t264) else ((laws_eqDiagram.f kj12 t260 t261 t264 t247 t248 t251).bind fun t276 => (if t276 = true then (laws_FnExactFixVar.j1 kj12 a1 a2 t252 (t265 != t252) a0_0 l0_1 a0_2 t247 t248 t251 t260 t261 t264) else (laws_FnExactFixVar.j1 kj12 a1 a2 t252 true a0_0 l0_1 a0_2 t247 t248 t251 t260 t261 t264)))) = some r := H
            have A61 := Aside0.mk A610
            clear A610
            have HC62 := Aside0.mk H
            clear H
            try go_wp2
            have n0_ := Aside0.mk (Kd.R_drew HO_254001.out)
            have n1_ := Aside0.mk (Kd.R_drew HO_260001.out)
            have n2_ := Aside0.mk (Kd.R_drew HO_267001.out)
            have n3_ := Aside0.mk (blk_drew BK240.out)
            have n4_ := Aside0.mk (blk_drew BK253.out)
            have n5_ := Aside0.mk (blk_drew BK259.out)
            have n6_ := Aside0.mk (blk_drew BK266.out)
            have n7_ := Aside0.mk (below_drew1 HB.out)
            clear HO_254001
            clear HO_260001
            clear HO_267001
            clear BK240
            clear BK253
            clear BK259
            clear BK266
            clear HB
            have HO_254001 := n0_
            have HO_260001 := n1_
            have HO_267001 := n2_
            have BK240 := n3_
            have BK253 := n4_
            have BK259 := n5_
            have BK266 := n6_
            have HB := n7_
            clear n0_ n1_ n2_ n3_ n4_ n5_ n6_ n7_
            refine start_ (n := 5) (S := fun w' => w'.cell? ⟨gb259, 0, none⟩ = some (.int .i64 t254) ∧ w'.cell? ⟨gb259, 1, none⟩ = some (.slice Ao31 t255.length co31) ∧ w'.cell? ⟨gb259, 2, none⟩ = some (.int .i64 t258) ∧ w'.cell? ⟨gb240, 0, none⟩ = some (.int .i64 a0_0) ∧ w'.cell? ⟨gb240, 1, none⟩ = some (.slice A0_1 l0_1.length c0_1) ∧ w'.cell? ⟨gb240, 2, none⟩ = some (.int .i64 a0_2)) (ds := []) #[false, false, false, false, false] (by kernel_rfl) rfl rfl ⟨(blk_cell BK259.out 0).trans rfl, (blk_cell BK259.out 1).trans rfl, (blk_cell BK259.out 2).trans rfl, (blk_cell BK240.out 0).trans rfl, (blk_cell BK240.out 1).trans rfl, (blk_cell BK240.out 2).trans rfl⟩ (fun hHeld => ?_)
            generalize wc.drew = w63 at HO_254001 HO_260001 HO_267001 BK240 BK253 BK259 BK266 HB hHeld ⊢
            refine take_ (i := 0) (N := some 49) (v := ?_) (a' := ?_) #[true, false, false, false, false] rfl rfl (by kernel_rfl) (fun _ _ _ h => h) (Or.inl ⟨by rfl, ?_⟩) hHeld ?_ ?_
            rotate_left
            · rintro w' ⟨s0, s1, s2, s3, s4, s5⟩
              go_simp
              with_reducible rfl
            rotate_left
            · simp only [Act.put, List.setIfInBounds_toArray, List.set_cons_zero, List.set_cons_succ, i64_w, i32_w]
              rfl
            refine take_ (i := 1) (N := some 50) (v := ?_) (a' := ?_) #[true, true, false, false, false] rfl rfl (by kernel_rfl) (fun _ _ _ h => h) (Or.inl ⟨by rfl, ?_⟩) hHeld ?_ ?_
            rotate_left
            · rintro w' ⟨s0, s1, s2, s3, s4, s5⟩
              go_simp
              with_reducible rfl
            rotate_left
            · simp only [Act.put, List.setIfInBounds_toArray, List.set_cons_zero, List.set_cons_succ, i64_w, i32_w]
              rfl
            refine one_ (i := 2) (N := some 51) #[true, true, true, false, false] rfl rfl (by kernel_rfl) (by decide) (fun K hK => ?_)
            refine goes_ Try.func14 (by kernel_rfl) rfl #[.agg #[.int .i64 a0_0, .slice A0_1 l0_1.length c0_1, .int .i64 a0_2]] (by rfl) rfl rfl (by (try simp only [List.map_toArray, List.map_cons, List.map_nil]); first | done | rfl | (simp only [List.length_drop, List.length_take]; rfl)) ?_
            with_reducible refine (laws_toDiagram.calls kj12 a0_0 _ _ l0_1 a0_2 t268 t269 t272 _ ?side1 ?side2 A58.out).mono ?_
            (case side1 => repeat (first | exact (Kd.C_below HR0_1.out HB.out) | (with_reducible refine Kd.C_alloc ?_ _) | (with_reducible refine Kd.C_drewN ?_ _) | (with_reducible refine Kd.C_drew ?_)))
            (case side2 => exact HC0_1.out)
            rintro e w64 ⟨v270, rfl, ho0, hb⟩
            refine ⟨_, rfl, ?_⟩
            have n0_ := Aside0.mk (Kd.R_elder' (rq_ HO_254001.out) (Kd.R_base ho0) hb)
            have n1_ := Aside0.mk (Kd.R_elder' (rq_ HO_260001.out) (Kd.R_base ho0) hb)
            have n2_ := Aside0.mk (Kd.R_elder' (rq_ HO_267001.out) (Kd.R_base ho0) hb)
            have n3_ := Aside0.mk (Kd.R_lower (Kd.R_new' (Kd.R_new' (Kd.R_new' ho0 (Kd.R_lt (rq_ HO_254001.out))) (Kd.R_lt (rq_ HO_260001.out))) (Kd.R_lt (rq_ HO_267001.out))) (below_size (bq_)))
            have n4_ := Aside0.mk (blk_below (bk_ BK240.out) hb)
            have n5_ := Aside0.mk (blk_below (bk_ BK253.out) hb)
            have n6_ := Aside0.mk (blk_below (bk_ BK259.out) hb)
            have n7_ := Aside0.mk (blk_below (bk_ BK266.out) hb)
            have n8_ := Aside0.mk (below_step (bq_) hb)
            clear HO_254001
            clear HO_260001
            clear HO_267001
            clear BK240
            clear BK253
            clear BK259
            clear BK266
            clear HB
            have HO_254001 := n0_
            have HO_260001 := n1_
            have HO_267001 := n2_
            have HO271 := n3_
            have BK240 := n4_
            have BK253 := n5_
            have BK259 := n6_
            have BK266 := n7_
            have HB := n8_
            clear n0_ n1_ n2_ n3_ n4_ n5_ n6_ n7_ n8_
            (try clear hb)
            (try clear hb2)
            (try clear hk)
            (try clear hi)
            (try clear ho0)
            obtain ⟨Ao65, co65, eo65⟩ := Kd.R_slice HO271.out
            (first | subst eo65 | (injection eo65 with f1_ f2_ f3_; have f4_ := f1_.symm; have f5_ := f3_.symm; clear f1_ f2_ f3_; subst f4_; subst f5_))
            refine hK.out _ _ ⟨(blk_cell BK259.out 0).trans rfl, (blk_cell BK259.out 1).trans rfl, (blk_cell BK259.out 2).trans rfl, (blk_cell BK240.out 0).trans rfl, (blk_cell BK240.out 1).trans rfl, (blk_cell BK240.out 2).trans rfl⟩ (fun hHeld => ?_)
            clear hK K
            refine norm_ (a' := ?_) ?_ ?_
            rotate_left
            · show Act.put _ (some 51) _ = _
              simp only [Act.put, List.setIfInBounds_toArray, List.set_cons_zero, List.set_cons_succ, i64_w, i32_w]
              rfl
            refine one_ (i := 3) (N := some 52) #[true, true, true, true, false] rfl rfl (by kernel_rfl) (by decide) (fun K hK => ?_)
            refine goes_ Try.func16 (by kernel_rfl) rfl #[.agg #[.int .i64 t254, .slice Ao31 t255.length co31, .int .i64 t258], .agg #[.int .i64 t268, .slice Ao65 t269.length co65, .int .i64 t272]] (by rfl) rfl rfl (by (try simp only [List.map_toArray, List.map_cons, List.map_nil]); first | done | rfl | (simp only [List.length_drop, List.length_take]; rfl)) ?_
            with_reducible refine (laws_eqDiagram.calls kj12 t254 _ _ t255 t258 t268 _ _ t269 t272 true _ ?side1 ?side2 ?side3 ?side4 A59.out).mono ?_
            (case side1 => repeat (first | exact (Kd.R_reads' HO_260001.out).2.2 | (with_reducible refine Kd.C_alloc ?_ _) | (with_reducible refine Kd.C_drewN ?_ _) | (with_reducible refine Kd.C_drew ?_)))
            (case side2 => exact (Kd.R_reads' HO_260001.out).2.1)
            (case side3 => repeat (first | exact (Kd.R_reads' HO271.out).2.2 | (with_reducible refine Kd.C_alloc ?_ _) | (with_reducible refine Kd.C_drewN ?_ _) | (with_reducible refine Kd.C_drew ?_)))
            (case side4 => exact (Kd.R_reads' HO271.out).2.1)
            rintro e w66 ⟨rfl, hb⟩
            refine ⟨_, rfl, ?_⟩
            have n0_ := Aside0.mk (Kd.R_below (rq_ HO_254001.out) hb)
            have n1_ := Aside0.mk (Kd.R_below (rq_ HO_260001.out) hb)
            have n2_ := Aside0.mk (Kd.R_below (rq_ HO_267001.out) hb)
            have n3_ := Aside0.mk (Kd.R_below (rq_ HO271.out) hb)
            have n4_ := Aside0.mk (blk_below (bk_ BK240.out) hb)
            have n5_ := Aside0.mk (blk_below (bk_ BK253.out) hb)
            have n6_ := Aside0.mk (blk_below (bk_ BK259.out) hb)
            have n7_ := Aside0.mk (blk_below (bk_ BK266.out) hb)
            have n8_ := Aside0.mk (below_step (bq_) hb)
            clear HO_254001
            clear HO_260001
            clear HO_267001
            clear HO271
            clear BK240
            clear BK253
            clear BK259
            clear BK266
            clear HB
            have HO_254001 := n0_
            have HO_260001 := n1_
            have HO_267001 := n2_
            have HO271 := n3_
            have BK240 := n4_
            have BK253 := n5_
            have BK259 := n6_
            have BK266 := n7_
            have HB := n8_
            clear n0_ n1_ n2_ n3_ n4_ n5_ n6_ n7_ n8_
            (try clear hb)
            (try clear hb2)
            (try clear hk)
            (try clear hi)
            refine hK.out _ _ ⟨(blk_cell BK259.out 0).trans rfl, (blk_cell BK259.out 1).trans rfl, (blk_cell BK259.out 2).trans rfl, (blk_cell BK240.out 0).trans rfl, (blk_cell BK240.out 1).trans rfl, (blk_cell BK240.out 2).trans rfl⟩ (fun hHeld => ?_)
            clear hK K
            refine norm_ (a' := ?_) ?_ ?_
            rotate_left
            · show Act.put _ (some 52) _ = _
              simp only [Act.put, List.setIfInBounds_toArray, List.set_cons_zero, List.set_cons_succ, i64_w, i32_w]
              rfl
            refine pure_ (i := 4) (N := some 53) (v := ?_) (a' := ?_) #[true, true, true, true, true] rfl rfl (by kernel_rfl) (fun _ _ _ h => h) (Or.inl ⟨by rfl, ?_⟩) ?_ ?_
            rotate_left
            · intro w'
              go_simp
              with_reducible rfl
            rotate_left
            · simp only [Act.put, List.setIfInBounds_toArray, List.set_cons_zero, List.set_cons_succ, i64_w, i32_w]
              rfl
            refine done_ (by kernel_rfl) ?_
            have hnb67 := NB259_240.out
            have hnc67 := NB240_259.out
            have hnb68 := NB259_253.out
            have hnc68 := NB253_259.out
            have hnb69 := NB259_266.out
            have hnc69 := NB266_259.out
            have hcz70_0 := cq_ BK259.out 0 (.int .i64 t254)
            have hcz70_1 := cq_ BK259.out 1 (.slice Ao31 t255.length co31)
            have hcz70_2 := cq_ BK259.out 2 (.int .i64 t258)
            have hfz70_0 := blk_frozen BK259.out 0
            have hfz70_1 := blk_frozen BK259.out 1
            have hfz70_2 := blk_frozen BK259.out 2
            go_upto_region 14 with (first | ((with_reducible refine gate_callee (f := 23) rfl ?_); refine goesL_ (some 56) rfl rfl Try.func23 (by kernel_rfl) rfl #[.agg #[.int .i64 t254, .slice Ao31 t255.length co31, .int .i64 t258], .int .i64 1] rfl (by (try simp only [List.map_toArray, List.map_cons, List.map_nil]); first | done | rfl | (simp only [List.length_drop, List.length_take]; rfl)) ?_; (with_reducible refine (laws_markDiagram.calls kj12 t254 (fun k_ => some k_ = (.slice Ao31 t255.length co31 : Value).ownBlock) (.slice Ao31 t255.length co31) t255 t258 1 t274 t275 w _ ?side1 ?side2 A61.out).mono ?_); (case side1 => repeat (first | (with_reducible first | exact HB.out | apply below_alloc | apply pw_below_drewN | apply below_drew1 | refine below_set ?_ GE240.out | refine below_set ?_ GE253.out | refine below_set ?_ GE259.out | refine below_set ?_ GE266.out) | exact HB.out)); (case side2 => exact Kd.R_tight rfl HO_260001.out); rintro e w71 ⟨rfl, hy0, hb, hkp⟩; refine ⟨_, rfl, ?_⟩; have n0_ := Aside0.mk (Kd.R_mono (ok' := fun k_ => some k_ ≠ (.slice Ao31 t255.length co31 : Value).ownBlock ∧ some k_ ≠ (.slice Ao38 t261.length co38 : Value).ownBlock ∧ some k_ ≠ (.slice Ao65 t269.length co65 : Value).ownBlock) (Kd.R_keptB (HO_254001.out) hkp (fun k_ hk_ hs_ => (hk_.1.1) hs_)) (fun k_ hk_ => ⟨hk_.1.1.1, hk_.1.1.2, hk_.1.2⟩)); have n1_ := Aside0.mk (Kd.R_reok rfl hy0 (fun k_ e_ => HO_260001.out.1 k_ e_)); have n2_ := Aside0.mk (Kd.R_mono (ok' := fun k_ => some k_ ≠ (.slice Ao24 t248.length co24 : Value).ownBlock ∧ some k_ ≠ (.slice Ao31 t255.length co31 : Value).ownBlock ∧ some k_ ≠ (.slice Ao65 t269.length co65 : Value).ownBlock) (Kd.R_keptB (HO_267001.out) hkp (fun k_ hk_ hs_ => (hk_.1.2) hs_)) (fun k_ hk_ => ⟨hk_.1.1.1, hk_.1.1.2, hk_.1.2⟩)); have n3_ := Aside0.mk (blk_kept (bk_ BK240.out) hkp (fun hs_ => (fun e_ => (Kd.R_ne HO_260001.out BK240.out (by decide)) e_) hs_)); have n4_ := Aside0.mk (blk_kept (bk_ BK253.out) hkp (fun hs_ => (fun e_ => (Kd.R_ne HO_260001.out BK253.out (by decide)) e_) hs_)); have n5_ := Aside0.mk (blk_kept (bk_ BK259.out) hkp (fun hs_ => (fun e_ => (Kd.R_ne HO_260001.out BK259.out (by decide)) e_) hs_)); have n6_ := Aside0.mk (blk_kept (bk_ BK266.out) hkp (fun hs_ => (fun e_ => (Kd.R_ne HO_260001.out BK266.out (by decide)) e_) hs_)); have n7_ := Aside0.mk (Kd.R_mono (ok' := fun k_ => some k_ ≠ (.slice Ao24 t248.length co24 : Value).ownBlock ∧ some k_ ≠ (.slice Ao31 t255.length co31 : Value).ownBlock ∧ some k_ ≠ (.slice Ao38 t261.length co38 : Value).ownBlock) (Kd.R_keptB (HO271.out) hkp (fun k_ hk_ hs_ => (hk_.1.2) hs_)) (fun k_ hk_ => ⟨hk_.1.1.1.2, hk_.1.1.2, hk_.1.2⟩)); have n8_ := Aside0.mk (hb); clear HO_254001; clear HO_260001; clear HO_267001; clear BK240; clear BK253; clear BK259; clear BK266; clear HO271; clear HB; have HO_254001 := n0_; have HO_260001 := n1_; have HO_267001 := n2_; have BK240 := n3_; have BK253 := n4_; have BK259 := n5_; have BK266 := n6_; have HO271 := n7_; have HB := n8_; clear n0_ n1_ n2_ n3_ n4_ n5_ n6_ n7_ n8_; (try clear hb); (try clear hkp); (try clear hy0)))
            (try simp only [Act.put, List.setIfInBounds_toArray, List.set_cons_zero, List.set_cons_succ])
            go_cut [69] (fun v69 wc => ∃ (kq : Nat) (x69_61 : Bool), v69 = .bool x69_61 ∧ Aside0 (laws_FnExactFixVar.j1 kq a1 a2 t252 x69_61 a0_0 l0_1 a0_2 t247 t248 t251 t260 t261 t264 = some r) ∧ Aside0 (kq ≤ kj12) ∧ Aside0 (Kd.R k75 75 wc w.heap.size (fun k_ => some k_ ≠ ((.slice Ao31 t255.length co31) : Value).ownBlock ∧ some k_ ≠ ((.slice Ao38 t261.length co38) : Value).ownBlock) (.slice Ao24 t248.length co24) t248) ∧ Aside0 (Kd.R k75 75 wc w.heap.size (fun k_ => some k_ ≠ ((.slice Ao24 t248.length co24) : Value).ownBlock ∧ some k_ ≠ ((.slice Ao38 t261.length co38) : Value).ownBlock) (.slice Ao31 t255.length co31) t275) ∧ Aside0 (Kd.R k75 75 wc w.heap.size (fun k_ => some k_ ≠ ((.slice Ao24 t248.length co24) : Value).ownBlock ∧ some k_ ≠ ((.slice Ao31 t255.length co31) : Value).ownBlock) (.slice Ao38 t261.length co38) t261) ∧ Aside0 (wc.heap[gb240]? = some (.cells #[.int .i64 a0_0, (.slice A0_1 l0_1.length c0_1), .int .i64 a0_2] 24 (0, 0))) ∧ Aside0 (wc.heap[gb253]? = some (.cells #[.int .i64 t247, (.slice Ao24 t248.length co24), .int .i64 t251] 30 (0, 0))) ∧ Aside0 (wc.heap[gb259]? = some (.cells #[.int .i64 t254, (.slice Ao31 t255.length co31), .int .i64 t258] 30 (0, 0))) ∧ Aside0 (wc.heap[gb266]? = some (.cells #[.int .i64 t260, (.slice Ao38 t261.length co38), .int .i64 t264] 30 (0, 0))) ∧ Aside0 (Below w.heap.size w wc))
            case first =>
              have H := HC62.out
              clear HC62
              by_cases c72 : t274 < 0
              · rw [if_pos c72] at H
                have c72b0 : decide (t274 < 0) = true := decide_eq_true c72
                clear c72
                (first | rw [c72b0] | (simp only [i64_w, i32_w]; rw [c72b0]) | skip)
                have H' := Aside0.mk H
                clear H
                go_wp2
                go_meet
                case rel => exact ⟨_, (true), (by first | rfl | (simp; done) | (simp [*]; done)), H', ⟨by have := HJ12.out; first | omega | exact Nat.le_refl _⟩, ⟨rq_ (Kd.R_mono HO_254001.out (fun _ hk => ⟨hk.1, hk.2.1⟩))⟩, ⟨rq_ (Kd.R_mono HO_260001.out (fun _ hk => ⟨hk.1.1, hk.1.2⟩))⟩, ⟨rq_ (Kd.R_mono HO_267001.out (fun _ hk => ⟨hk.1, hk.2.1⟩))⟩, ⟨bk_ BK240.out⟩, ⟨bk_ BK253.out⟩, ⟨bk_ BK259.out⟩, ⟨bk_ BK266.out⟩, ⟨bq_⟩⟩
              · rw [if_neg c72] at H
                have c72b0 : decide (t274 < 0) = false := decide_eq_false c72
                clear c72
                (first | rw [c72b0] | (simp only [i64_w, i32_w]; rw [c72b0]) | skip)
                replace H := Option.bind_eq_some_iff.mp H
                obtain ⟨t276, A730, H⟩ := H
                replace H : (if t276 = true then (laws_FnExactFixVar.j1 kj12 a1 a2 t252 (t265 != t252) a0_0 l0_1 a0_2 t247 t248 t251 t260 t261 t264) else (laws_FnExactFixVar.j1 kj12 a1 a2 t252 true a0_0 l0_1 a0_2 t247 t248 t251 t260 t261 t264)) = some r := H
                have A73 := Aside0.mk A730
                clear A730
                by_cases c74 : t276 = true
                · subst c74
                  have H1 : (laws_FnExactFixVar.j1 kj12 a1 a2 t252 (t265 != t252) a0_0 l0_1 a0_2 t247 t248 t251 t260 t261 t264) = some r := by rw [if_pos rfl] at H; exact H
                  clear H
                  have H := H1
                  clear H1
                  have H' := Aside0.mk H
                  clear H
                  have hnb75 := NB266_240.out
                  have hnc75 := NB240_266.out
                  have hnb76 := NB266_253.out
                  have hnc76 := NB253_266.out
                  have hnb77 := NB266_259.out
                  have hnc77 := NB259_266.out
                  have hcz78_0 := cq_ BK266.out 0 (.int .i64 t260)
                  have hcz78_1 := cq_ BK266.out 1 (.slice Ao38 t261.length co38)
                  have hcz78_2 := cq_ BK266.out 2 (.int .i64 t264)
                  have hfz78_0 := blk_frozen BK266.out 0
                  have hfz78_1 := blk_frozen BK266.out 1
                  have hfz78_2 := blk_frozen BK266.out 2
                  have hnb79 := NB253_240.out
                  have hnc79 := NB240_253.out
                  have hnb80 := NB253_259.out
                  have hnc80 := NB259_253.out
                  have hcz81_0 := cq_ BK253.out 0 (.int .i64 t247)
                  have hcz81_1 := cq_ BK253.out 1 (.slice Ao24 t248.length co24)
                  have hcz81_2 := cq_ BK253.out 2 (.int .i64 t251)
                  have hfz81_0 := blk_frozen BK253.out 0
                  have hfz81_1 := blk_frozen BK253.out 1
                  have hfz81_2 := blk_frozen BK253.out 2
                  go_wp2_with (first | (go_at_call 16; (with_reducible refine (laws_eqDiagram.calls kj12 t260 _ _ t261 t264 t247 _ _ t248 t251 true _ ?side1 ?side2 ?side3 ?side4 A73.out).mono ?_); (case side1 => repeat (first | exact (Kd.R_reads' HO_267001.out).2.2 | (with_reducible refine Kd.C_alloc ?_ _) | (with_reducible refine Kd.C_drewN ?_ _) | (with_reducible refine Kd.C_drew ?_))); (case side2 => exact (Kd.R_reads' HO_267001.out).2.1); (case side3 => repeat (first | exact (Kd.R_reads' HO_254001.out).2.2 | (with_reducible refine Kd.C_alloc ?_ _) | (with_reducible refine Kd.C_drewN ?_ _) | (with_reducible refine Kd.C_drew ?_))); (case side4 => exact (Kd.R_reads' HO_254001.out).2.1); rintro e w82 ⟨rfl, hb⟩; have n0_ := Aside0.mk (Kd.R_below (rq_ HO_254001.out) hb); have n1_ := Aside0.mk (Kd.R_below (rq_ HO_260001.out) hb); have n2_ := Aside0.mk (Kd.R_below (rq_ HO_267001.out) hb); have n3_ := Aside0.mk (Kd.R_below (rq_ HO271.out) hb); have n4_ := Aside0.mk (blk_below (bk_ BK240.out) hb); have n5_ := Aside0.mk (blk_below (bk_ BK253.out) hb); have n6_ := Aside0.mk (blk_below (bk_ BK259.out) hb); have n7_ := Aside0.mk (blk_below (bk_ BK266.out) hb); have n8_ := Aside0.mk (below_step (bq_) hb); clear HO_254001; clear HO_260001; clear HO_267001; clear HO271; clear BK240; clear BK253; clear BK259; clear BK266; clear HB; have HO_254001 := n0_; have HO_260001 := n1_; have HO_267001 := n2_; have HO271 := n3_; have BK240 := n4_; have BK253 := n5_; have BK259 := n6_; have BK266 := n7_; have HB := n8_; clear n0_ n1_ n2_ n3_ n4_ n5_ n6_ n7_ n8_; (try clear hb); (try clear hb2); (try clear hk); (try clear hi)))
                  go_meet
                  case rel => exact ⟨_, ((t265 != t252)), (by first | rfl | (simp; done) | (simp [*]; done)), H', ⟨by have := HJ12.out; first | omega | exact Nat.le_refl _⟩, ⟨rq_ (Kd.R_mono HO_254001.out (fun _ hk => ⟨hk.1, hk.2.1⟩))⟩, ⟨rq_ (Kd.R_mono HO_260001.out (fun _ hk => ⟨hk.1.1, hk.1.2⟩))⟩, ⟨rq_ (Kd.R_mono HO_267001.out (fun _ hk => ⟨hk.1, hk.2.1⟩))⟩, ⟨bk_ BK240.out⟩, ⟨bk_ BK253.out⟩, ⟨bk_ BK259.out⟩, ⟨bk_ BK266.out⟩, ⟨bq_⟩⟩
                · replace c74 := Bool.eq_false_iff.mpr c74
                  subst c74
                  have H1 : (laws_FnExactFixVar.j1 kj12 a1 a2 t252 true a0_0 l0_1 a0_2 t247 t248 t251 t260 t261 t264) = some r := by rw [if_neg (show ¬ (false = true) by decide)] at H; exact H
                  clear H
                  have H := H1
                  clear H1
                  have H' := Aside0.mk H
                  clear H
                  have hnb83 := NB266_240.out
                  have hnc83 := NB240_266.out
                  have hnb84 := NB266_253.out
                  have hnc84 := NB253_266.out
                  have hnb85 := NB266_259.out
                  have hnc85 := NB259_266.out
                  have hcz86_0 := cq_ BK266.out 0 (.int .i64 t260)
                  have hcz86_1 := cq_ BK266.out 1 (.slice Ao38 t261.length co38)
                  have hcz86_2 := cq_ BK266.out 2 (.int .i64 t264)
                  have hfz86_0 := blk_frozen BK266.out 0
                  have hfz86_1 := blk_frozen BK266.out 1
                  have hfz86_2 := blk_frozen BK266.out 2
                  have hnb87 := NB253_240.out
                  have hnc87 := NB240_253.out
                  have hnb88 := NB253_259.out
                  have hnc88 := NB259_253.out
                  have hcz89_0 := cq_ BK253.out 0 (.int .i64 t247)
                  have hcz89_1 := cq_ BK253.out 1 (.slice Ao24 t248.length co24)
                  have hcz89_2 := cq_ BK253.out 2 (.int .i64 t251)
                  have hfz89_0 := blk_frozen BK253.out 0
                  have hfz89_1 := blk_frozen BK253.out 1
                  have hfz89_2 := blk_frozen BK253.out 2
                  go_wp2_with (first | (go_at_call 16; (with_reducible refine (laws_eqDiagram.calls kj12 t260 _ _ t261 t264 t247 _ _ t248 t251 false _ ?side1 ?side2 ?side3 ?side4 A73.out).mono ?_); (case side1 => repeat (first | exact (Kd.R_reads' HO_267001.out).2.2 | (with_reducible refine Kd.C_alloc ?_ _) | (with_reducible refine Kd.C_drewN ?_ _) | (with_reducible refine Kd.C_drew ?_))); (case side2 => exact (Kd.R_reads' HO_267001.out).2.1); (case side3 => repeat (first | exact (Kd.R_reads' HO_254001.out).2.2 | (with_reducible refine Kd.C_alloc ?_ _) | (with_reducible refine Kd.C_drewN ?_ _) | (with_reducible refine Kd.C_drew ?_))); (case side4 => exact (Kd.R_reads' HO_254001.out).2.1); rintro e w90 ⟨rfl, hb⟩; have n0_ := Aside0.mk (Kd.R_below (rq_ HO_254001.out) hb); have n1_ := Aside0.mk (Kd.R_below (rq_ HO_260001.out) hb); have n2_ := Aside0.mk (Kd.R_below (rq_ HO_267001.out) hb); have n3_ := Aside0.mk (Kd.R_below (rq_ HO271.out) hb); have n4_ := Aside0.mk (blk_below (bk_ BK240.out) hb); have n5_ := Aside0.mk (blk_below (bk_ BK253.out) hb); have n6_ := Aside0.mk (blk_below (bk_ BK259.out) hb); have n7_ := Aside0.mk (blk_below (bk_ BK266.out) hb); have n8_ := Aside0.mk (below_step (bq_) hb); clear HO_254001; clear HO_260001; clear HO_267001; clear HO271; clear BK240; clear BK253; clear BK259; clear BK266; clear HB; have HO_254001 := n0_; have HO_260001 := n1_; have HO_267001 := n2_; have HO271 := n3_; have BK240 := n4_; have BK253 := n5_; have BK259 := n6_; have BK266 := n7_; have HB := n8_; clear n0_ n1_ n2_ n3_ n4_ n5_ n6_ n7_ n8_; (try clear hb); (try clear hb2); (try clear hk); (try clear hi)))
                  go_meet
                  case rel => exact ⟨_, (true), (by first | rfl | (simp; done) | (simp [*]; done)), H', ⟨by have := HJ12.out; first | omega | exact Nat.le_refl _⟩, ⟨rq_ (Kd.R_mono HO_254001.out (fun _ hk => ⟨hk.1, hk.2.1⟩))⟩, ⟨rq_ (Kd.R_mono HO_260001.out (fun _ hk => ⟨hk.1.1, hk.1.2⟩))⟩, ⟨rq_ (Kd.R_mono HO_267001.out (fun _ hk => ⟨hk.1, hk.2.1⟩))⟩, ⟨bk_ BK240.out⟩, ⟨bk_ BK253.out⟩, ⟨bk_ BK259.out⟩, ⟨bk_ BK266.out⟩, ⟨bq_⟩⟩
            case rest =>
              clear HC62
              try clear c1
              try clear c2
              try clear p2
              try clear c3
              try clear c4
              try clear c5
              try clear c5b0
              try clear c6
              try clear c7
              try clear c8
              try clear c12
              try clear c14
              try clear c16
              try clear c22
              try clear c23
              try clear c28
              try clear c29
              try clear c31
              try clear c32
              try clear c34
              try clear c35
              try clear c36
              try clear c40
              try clear c41
              try clear c42
              try clear c43
              try clear c45
              try clear c46
              try clear c49
              try clear c50
              try clear c51
              try clear c53
              try clear c54
              try clear c57
              try clear c60
              try clear c67
              try clear c68
              try clear c69
              try clear c72
              try clear c72b0
              try clear c74
              try clear c75
              try clear c76
              try clear c77
              try clear c79
              try clear c80
              try clear c83
              try clear c84
              try clear c85
              try clear c87
              try clear c88
              try clear hcz15_0
              try clear hcz15_1
              try clear hcz15_2
              try clear hcz17_0
              try clear hcz17_1
              try clear hcz17_2
              try clear hcz23_0
              try clear hcz23_1
              try clear hcz23_2
              try clear hcz25_0
              try clear hcz25_1
              try clear hcz25_2
              try clear hcz30_0
              try clear hcz30_1
              try clear hcz30_2
              try clear hcz37_0
              try clear hcz37_1
              try clear hcz37_2
              try clear hcz44_0
              try clear hcz44_1
              try clear hcz44_2
              try clear hcz47_0
              try clear hcz47_1
              try clear hcz47_2
              try clear hcz52_0
              try clear hcz52_1
              try clear hcz52_2
              try clear hcz55_0
              try clear hcz55_1
              try clear hcz55_2
              try clear hcz70_0
              try clear hcz70_1
              try clear hcz70_2
              try clear hcz78_0
              try clear hcz78_1
              try clear hcz78_2
              try clear hcz7_0
              try clear hcz7_1
              try clear hcz7_2
              try clear hcz81_0
              try clear hcz81_1
              try clear hcz81_2
              try clear hcz86_0
              try clear hcz86_1
              try clear hcz86_2
              try clear hcz89_0
              try clear hcz89_1
              try clear hcz89_2
              try clear hfz15_0
              try clear hfz15_1
              try clear hfz15_2
              try clear hfz17_0
              try clear hfz17_1
              try clear hfz17_2
              try clear hfz23_0
              try clear hfz23_1
              try clear hfz23_2
              try clear hfz25_0
              try clear hfz25_1
              try clear hfz25_2
              try clear hfz30_0
              try clear hfz30_1
              try clear hfz30_2
              try clear hfz37_0
              try clear hfz37_1
              try clear hfz37_2
              try clear hfz44_0
              try clear hfz44_1
              try clear hfz44_2
              try clear hfz47_0
              try clear hfz47_1
              try clear hfz47_2
              try clear hfz52_0
              try clear hfz52_1
              try clear hfz52_2
              try clear hfz55_0
              try clear hfz55_1
              try clear hfz55_2
              try clear hfz70_0
              try clear hfz70_1
              try clear hfz70_2
              try clear hfz78_0
              try clear hfz78_1
              try clear hfz78_2
              try clear hfz7_0
              try clear hfz7_1
              try clear hfz7_2
              try clear hfz81_0
              try clear hfz81_1
              try clear hfz81_2
              try clear hfz86_0
              try clear hfz86_1
              try clear hfz86_2
              try clear hfz89_0
              try clear hfz89_1
              try clear hfz89_2
              try clear p2
              obtain ⟨kq, x69_61, rfl, HA, HJ61, HO_254001, HO_260001, HO_267001, BK240, BK253, BK259, BK266, HB⟩ := hcut
              have hl260001_61 := (Kd.R_reads' HO_260001.out).1
              rw [hl260001_61] at HO_260001
              (try simp only [hl260001_61])
              (try simp only [hl260001_61] at BK240)
              (try simp only [hl260001_61] at BK253)
              (try simp only [hl260001_61] at BK259)
              (try simp only [hl260001_61] at BK266)
              (try simp only [hl260001_61] at HO_254001)
              (try simp only [hl260001_61] at HO_267001)
              cases kq with
              | zero => exact absurd HA.out (by simp [laws_FnExactFixVar.j1])
              | succ kj61 =>
                have H := HA.out
                clear HA
                simp only [laws_FnExactFixVar.j1] at H
                by_cases c91 : x69_61 = true
                · subst c91
                  have H1 : (some false) = some r := by rw [if_pos rfl] at H; exact H
                  clear H
                  have H := H1
                  clear H1
                  exact absurd (Option.some.inj H).symm (by rw [hr_.out]; simp)
                · replace c91 := Bool.eq_false_iff.mpr c91
                  subst c91
                  have H1 : ((laws_markDiagram.f kj61 t260 t261 t264 1).bind fun bt277 => ((laws_heldDiagram.f kj61 t260 bt277.2 t264 1).bind fun t279 => (if t279 < 0 then (some false) else (if t279 = bt277.1 then ((laws_toDiagram.f kj61 a0_0 l0_1 a0_2).bind fun bt280 => ((impl_FixVar.f kj61 bt280.1 bt280.2.1 bt280.2.2 a1 a2).bind fun bt285 => ((laws_eqDiagram.f kj61 bt285.1 bt285.2.1 bt285.2.2.1 t247 t248 t251).bind fun t292 => (if t292 = true then (laws_FnExactFixVar.j2 kj61 bt277.1 (bt285.2.2.2 != t252) t260 bt277.2 t264) else (laws_FnExactFixVar.j2 kj61 bt277.1 true t260 bt277.2 t264))))) else (some false))))) = some r := by rw [if_neg (show ¬ (false = true) by decide)] at H; exact H
                  clear H
                  have H := H1
                  clear H1
                  replace H := Option.bind_eq_some_iff.mp H
                  obtain ⟨⟨t277, t278⟩, A920, H⟩ := H
                  replace H : ((laws_heldDiagram.f kj61 t260 t278 t264 1).bind fun t279 => (if t279 < 0 then (some false) else (if t279 = t277 then ((laws_toDiagram.f kj61 a0_0 l0_1 a0_2).bind fun bt280 => ((impl_FixVar.f kj61 bt280.1 bt280.2.1 bt280.2.2 a1 a2).bind fun bt285 => ((laws_eqDiagram.f kj61 bt285.1 bt285.2.1 bt285.2.2.1 t247 t248 t251).bind fun t292 => (if t292 = true then (laws_FnExactFixVar.j2 kj61 t277 (bt285.2.2.2 != t252) t260 t278 t264) else (laws_FnExactFixVar.j2 kj61 t277 true t260 t278 t264))))) else (some false)))) = some r := H
                  have A92 := Aside0.mk A920
                  clear A920
                  replace H := Option.bind_eq_some_iff.mp H
                  obtain ⟨t279, A930, H⟩ := H
                  replace H : (if t279 < 0 then (some false) else (if t279 = t277 then ((laws_toDiagram.f kj61 a0_0 l0_1 a0_2).bind fun bt280 => ((impl_FixVar.f kj61 bt280.1 bt280.2.1 bt280.2.2 a1 a2).bind fun bt285 => ((laws_eqDiagram.f kj61 bt285.1 bt285.2.1 bt285.2.2.1 t247 t248 t251).bind fun t292 => (if t292 = true then (laws_FnExactFixVar.j2 kj61 t277 (bt285.2.2.2 != t252) t260 t278 t264) else (laws_FnExactFixVar.j2 kj61 t277 true t260 t278 t264))))) else (some false))) = some r := H
                  have A93 := Aside0.mk A930
                  clear A930
                  by_cases c94 : t279 < 0
                  · rw [if_pos c94] at H
                    have c94b0 : decide (t279 < 0) = true := decide_eq_true c94
                    clear c94
                    exact absurd (Option.some.inj H).symm (by rw [hr_.out]; simp)
                  · rw [if_neg c94] at H
                    have c94b0 : decide (t279 < 0) = false := decide_eq_false c94
                    clear c94
                    by_cases c95 : t279 = t277
                    · rw [if_pos c95] at H
                      have c95b0 : (t279 == t277) = true := beq_iff_eq.mpr c95
                      have c95b1 : (t279 != t277) = false := bne_eq_false_iff_eq.mpr c95
                      clear c95
                      replace H := Option.bind_eq_some_iff.mp H
                      obtain ⟨⟨t280, t281, t284⟩, A960, H⟩ := H
                      replace H : ((impl_FixVar.f kj61 t280 t281 t284 a1 a2).bind fun bt285 => ((laws_eqDiagram.f kj61 bt285.1 bt285.2.1 bt285.2.2.1 t247 t248 t251).bind fun t292 => (if t292 = true then (laws_FnExactFixVar.j2 kj61 t277 (bt285.2.2.2 != t252) t260 t278 t264) else (laws_FnExactFixVar.j2 kj61 t277 true t260 t278 t264)))) = some r := H
                      have A96 := Aside0.mk A960
                      clear A960
                      replace H := Option.bind_eq_some_iff.mp H
                      obtain ⟨⟨t285, t286, t289, t290⟩, A970, H⟩ := H
                      replace H : ((laws_eqDiagram.f kj61 t285 t286 t289 t247 t248 t251).bind fun t292 => (if t292 = true then (laws_FnExactFixVar.j2 kj61 t277 (t290 != t252) t260 t278 t264) else (laws_FnExactFixVar.j2 kj61 t277 true t260 t278 t264))) = some r := H
                      have A97 := Aside0.mk A970
                      clear A970
                      have HC98 := Aside0.mk H
                      clear H
                      have hnb99 := NB266_240.out
                      have hnc99 := NB240_266.out
                      have hnb100 := NB266_253.out
                      have hnc100 := NB253_266.out
                      have hnb101 := NB266_259.out
                      have hnc101 := NB259_266.out
                      have hcz102_0 := cq_ BK266.out 0 (.int .i64 t260)
                      have hcz102_1 := cq_ BK266.out 1 (.slice Ao38 t261.length co38)
                      have hcz102_2 := cq_ BK266.out 2 (.int .i64 t264)
                      have hfz102_0 := blk_frozen BK266.out 0
                      have hfz102_1 := blk_frozen BK266.out 1
                      have hfz102_2 := blk_frozen BK266.out 2
                      go_upto_region 25 with (first | ((with_reducible refine gate_callee (f := 23) rfl ?_); refine goesL_ (some 72) rfl rfl Try.func23 (by kernel_rfl) rfl #[.agg #[.int .i64 t260, .slice Ao38 t261.length co38, .int .i64 t264], .int .i64 1] rfl (by (try simp only [List.map_toArray, List.map_cons, List.map_nil]); first | done | rfl | (simp only [List.length_drop, List.length_take]; rfl)) ?_; (with_reducible refine (laws_markDiagram.calls kj61 t260 (fun k_ => some k_ = (.slice Ao38 t261.length co38 : Value).ownBlock) (.slice Ao38 t261.length co38) t261 t264 1 t277 t278 w _ ?side1 ?side2 A92.out).mono ?_); (case side1 => repeat (first | (with_reducible first | exact HB.out | apply below_alloc | apply pw_below_drewN | apply below_drew1 | refine below_set ?_ GE240.out | refine below_set ?_ GE253.out | refine below_set ?_ GE259.out | refine below_set ?_ GE266.out) | exact HB.out)); (case side2 => exact Kd.R_tight rfl HO_267001.out); rintro e w103 ⟨rfl, hy0, hb, hkp⟩; refine ⟨_, rfl, ?_⟩; have n0_ := Aside0.mk (Kd.R_mono (ok' := fun k_ => some k_ ≠ (.slice Ao31 t275.length co31 : Value).ownBlock ∧ some k_ ≠ (.slice Ao38 t261.length co38 : Value).ownBlock) (Kd.R_keptB (HO_254001.out) hkp (fun k_ hk_ hs_ => (hk_.2) hs_)) (fun k_ hk_ => ⟨hk_.1.1, hk_.1.2⟩)); have n1_ := Aside0.mk (Kd.R_mono (ok' := fun k_ => some k_ ≠ (.slice Ao24 t248.length co24 : Value).ownBlock ∧ some k_ ≠ (.slice Ao38 t261.length co38 : Value).ownBlock) (Kd.R_keptB (HO_260001.out) hkp (fun k_ hk_ hs_ => (hk_.2) hs_)) (fun k_ hk_ => ⟨hk_.1.1, hk_.1.2⟩)); have n2_ := Aside0.mk (Kd.R_reok rfl hy0 (fun k_ e_ => HO_267001.out.1 k_ e_)); have n3_ := Aside0.mk (blk_kept (bk_ BK240.out) hkp (fun hs_ => (fun e_ => (Kd.R_ne HO_267001.out BK240.out (by decide)) e_) hs_)); have n4_ := Aside0.mk (blk_kept (bk_ BK253.out) hkp (fun hs_ => (fun e_ => (Kd.R_ne HO_267001.out BK253.out (by decide)) e_) hs_)); have n5_ := Aside0.mk (blk_kept (bk_ BK259.out) hkp (fun hs_ => (fun e_ => (Kd.R_ne HO_267001.out BK259.out (by decide)) e_) hs_)); have n6_ := Aside0.mk (blk_kept (bk_ BK266.out) hkp (fun hs_ => (fun e_ => (Kd.R_ne HO_267001.out BK266.out (by decide)) e_) hs_)); have n7_ := Aside0.mk (hb); clear HO_254001; clear HO_260001; clear HO_267001; clear BK240; clear BK253; clear BK259; clear BK266; clear HB; have HO_254001 := n0_; have HO_260001 := n1_; have HO_267001 := n2_; have BK240 := n3_; have BK253 := n4_; have BK259 := n5_; have BK266 := n6_; have HB := n7_; clear n0_ n1_ n2_ n3_ n4_ n5_ n6_ n7_; (try clear hb); (try clear hkp); (try clear hy0); have hcz104_0 := cq_ BK266.out 0 (.int .i64 t260); have hcz104_1 := cq_ BK266.out 1 (.slice Ao38 t261.length co38); have hcz104_2 := cq_ BK266.out 2 (.int .i64 t264); have hfz104_0 := blk_frozen BK266.out 0; have hfz104_1 := blk_frozen BK266.out 1; have hfz104_2 := blk_frozen BK266.out 2) | ((with_reducible refine gate_callee (f := 28) rfl ?_); refine goesL_ (some 75) rfl rfl Try.func28 (by kernel_rfl) rfl #[.agg #[.int .i64 t260, .slice Ao38 t278.length co38, .int .i64 t264], .int .i64 1] rfl (by (try simp only [List.map_toArray, List.map_cons, List.map_nil]); first | done | (rw [show t278.length = t261.length from (Kd.R_reads' HO_267001.out).1.symm] <;> rfl) | rfl | (simp only [List.length_drop, List.length_take]; rfl)) ?_; (with_reducible refine (laws_heldDiagram.calls kj61 t260 _ _ t278 t264 1 t279 _ ?side1 ?side2 A93.out).mono ?_); (case side1 => repeat (first | exact (Kd.R_reads' HO_267001.out).2.2 | (with_reducible refine Kd.C_alloc ?_ _) | (with_reducible refine Kd.C_drewN ?_ _) | (with_reducible refine Kd.C_drew ?_))); (case side2 => rw [show t278.length = t261.length from (Kd.R_reads' HO_267001.out).1.symm]; exact (Kd.R_reads' HO_267001.out).2.1); rintro e w105 ⟨rfl, hb⟩; refine ⟨_, rfl, ?_⟩; have n0_ := Aside0.mk (Kd.R_below (rq_ HO_254001.out) hb); have n1_ := Aside0.mk (Kd.R_below (rq_ HO_260001.out) hb); have n2_ := Aside0.mk (Kd.R_below (rq_ HO_267001.out) hb); have n3_ := Aside0.mk (blk_below (bk_ BK240.out) hb); have n4_ := Aside0.mk (blk_below (bk_ BK253.out) hb); have n5_ := Aside0.mk (blk_below (bk_ BK259.out) hb); have n6_ := Aside0.mk (blk_below (bk_ BK266.out) hb); have n7_ := Aside0.mk (below_step (bq_) hb); clear HO_254001; clear HO_260001; clear HO_267001; clear BK240; clear BK253; clear BK259; clear BK266; clear HB; have HO_254001 := n0_; have HO_260001 := n1_; have HO_267001 := n2_; have BK240 := n3_; have BK253 := n4_; have BK259 := n5_; have BK266 := n6_; have HB := n7_; clear n0_ n1_ n2_ n3_ n4_ n5_ n6_ n7_; (try clear hb); (try clear hb2); (try clear hk); (try clear hi); have hnb106 := NB240_253.out; have hnc106 := NB253_240.out; have hnb107 := NB240_259.out; have hnc107 := NB259_240.out; have hcz108_0 := cq_ BK240.out 0 (.int .i64 a0_0); have hcz108_1 := cq_ BK240.out 1 (.slice A0_1 l0_1.length c0_1); have hcz108_2 := cq_ BK240.out 2 (.int .i64 a0_2); have hfz108_0 := blk_frozen BK240.out 0; have hfz108_1 := blk_frozen BK240.out 1; have hfz108_2 := blk_frozen BK240.out 2) | ((with_reducible refine gate_callee (f := 14) rfl ?_); refine goesL_ (some 83) rfl rfl Try.func14 (by kernel_rfl) rfl #[.agg #[.int .i64 a0_0, .slice A0_1 l0_1.length c0_1, .int .i64 a0_2]] rfl (by (try simp only [List.map_toArray, List.map_cons, List.map_nil]); first | done | rfl | (simp only [List.length_drop, List.length_take]; rfl)) ?_; (with_reducible refine (laws_toDiagram.calls kj61 a0_0 _ _ l0_1 a0_2 t280 t281 t284 _ ?side1 ?side2 A96.out).mono ?_); (case side1 => repeat (first | exact (Kd.C_below HR0_1.out HB.out) | (with_reducible refine Kd.C_alloc ?_ _) | (with_reducible refine Kd.C_drewN ?_ _) | (with_reducible refine Kd.C_drew ?_))); (case side2 => exact HC0_1.out); rintro e w109 ⟨v282, rfl, ho0, hb⟩; refine ⟨_, rfl, ?_⟩; have n0_ := Aside0.mk (Kd.R_elder' (rq_ HO_254001.out) (Kd.R_base ho0) hb); have n1_ := Aside0.mk (Kd.R_elder' (rq_ HO_260001.out) (Kd.R_base ho0) hb); have n2_ := Aside0.mk (Kd.R_elder' (rq_ HO_267001.out) (Kd.R_base ho0) hb); have n3_ := Aside0.mk (Kd.R_lower (Kd.R_new' (Kd.R_new' (Kd.R_new' ho0 (Kd.R_lt (rq_ HO_254001.out))) (Kd.R_lt (rq_ HO_260001.out))) (Kd.R_lt (rq_ HO_267001.out))) (below_size (bq_))); have n4_ := Aside0.mk (blk_below (bk_ BK240.out) hb); have n5_ := Aside0.mk (blk_below (bk_ BK253.out) hb); have n6_ := Aside0.mk (blk_below (bk_ BK259.out) hb); have n7_ := Aside0.mk (blk_below (bk_ BK266.out) hb); have n8_ := Aside0.mk (below_step (bq_) hb); clear HO_254001; clear HO_260001; clear HO_267001; clear BK240; clear BK253; clear BK259; clear BK266; clear HB; have HO_254001 := n0_; have HO_260001 := n1_; have HO_267001 := n2_; have HO283 := n3_; have BK240 := n4_; have BK253 := n5_; have BK259 := n6_; have BK266 := n7_; have HB := n8_; clear n0_ n1_ n2_ n3_ n4_ n5_ n6_ n7_ n8_; (try clear hb); (try clear hb2); (try clear hk); (try clear hi); (try clear ho0); obtain ⟨Ao110, co110, eo110⟩ := Kd.R_slice HO283.out; subst eo110) | ((with_reducible refine gate_callee (f := 32) rfl ?_); refine goesL_ (some 86) rfl rfl Try.func32 (by kernel_rfl) rfl #[.agg #[.int .i64 t280, .slice Ao110 t281.length co110, .int .i64 t284], .int .i64 a1, .bool a2] rfl (by (try simp only [List.map_toArray, List.map_cons, List.map_nil]); first | done | rfl | (simp only [List.length_drop, List.length_take]; rfl)) ?_; (with_reducible refine (impl_FixVar.calls kj61 t280 _ _ t281 t284 a1 a2 t285 t286 t289 t290 _ ?side1 ?side2 A97.out).mono ?_); (case side1 => repeat (first | exact (Kd.R_reads' HO283.out).2.2 | (with_reducible refine Kd.C_alloc ?_ _) | (with_reducible refine Kd.C_drewN ?_ _) | (with_reducible refine Kd.C_drew ?_))); (case side2 => exact (Kd.R_reads' HO283.out).2.1); rintro e w111 ⟨v287, rfl, ho0, hb⟩; refine ⟨_, rfl, ?_⟩; have n0_ := Aside0.mk (Kd.R_elder' (rq_ HO_254001.out) (Kd.R_base ho0) hb); have n1_ := Aside0.mk (Kd.R_elder' (rq_ HO_260001.out) (Kd.R_base ho0) hb); have n2_ := Aside0.mk (Kd.R_elder' (rq_ HO_267001.out) (Kd.R_base ho0) hb); have n3_ := Aside0.mk (Kd.R_elder' (rq_ HO283.out) (Kd.R_base ho0) hb); have n4_ := Aside0.mk (Kd.R_lower (Kd.R_new' (Kd.R_new' (Kd.R_new' (Kd.R_new' ho0 (Kd.R_lt (rq_ HO_254001.out))) (Kd.R_lt (rq_ HO_260001.out))) (Kd.R_lt (rq_ HO_267001.out))) (Kd.R_lt (rq_ HO283.out))) (below_size (bq_))); have n5_ := Aside0.mk (blk_below (bk_ BK240.out) hb); have n6_ := Aside0.mk (blk_below (bk_ BK253.out) hb); have n7_ := Aside0.mk (blk_below (bk_ BK259.out) hb); have n8_ := Aside0.mk (blk_below (bk_ BK266.out) hb); have n9_ := Aside0.mk (below_step (bq_) hb); clear HO_254001; clear HO_260001; clear HO_267001; clear HO283; clear BK240; clear BK253; clear BK259; clear BK266; clear HB; have HO_254001 := n0_; have HO_260001 := n1_; have HO_267001 := n2_; have HO283 := n3_; have HO288 := n4_; have BK240 := n5_; have BK253 := n6_; have BK259 := n7_; have BK266 := n8_; have HB := n9_; clear n0_ n1_ n2_ n3_ n4_ n5_ n6_ n7_ n8_ n9_; (try clear hb); (try clear hb2); (try clear hk); (try clear hi); (try clear ho0)) | ((with_reducible refine gate_dst (N := 16) rfl ?_); refine boxq_ (N := 16) (cs := #[.int .i64 0, .slice none 0 0, .int .i64 0]) (t := 30) ?_; intro gb291 hg w112 hbox hb; have n0_ := Aside0.mk (Kd.R_below (rq_ HO_254001.out) hb); have n1_ := Aside0.mk (Kd.R_below (rq_ HO_260001.out) hb); have n2_ := Aside0.mk (Kd.R_below (rq_ HO_267001.out) hb); have n3_ := Aside0.mk (Kd.R_below (rq_ HO283.out) hb); have n4_ := Aside0.mk (Kd.R_below (rq_ HO288.out) hb); have n5_ := Aside0.mk (blk_below (bk_ BK240.out) hb); have n6_ := Aside0.mk (blk_below (bk_ BK253.out) hb); have n7_ := Aside0.mk (blk_below (bk_ BK259.out) hb); have n8_ := Aside0.mk (blk_below (bk_ BK266.out) hb); have n9_ := Aside0.mk (below_step (bq_) hb); have n10_ := Aside0.mk (hbox); have n11_ := Aside0.mk ((by rw [hg]; exact (below_size (bq_)) : w.heap.size ≤ gb291)); have n12_ := Aside0.mk ((by rw [hg]; exact (below_size (bq_)) : w.heap.size ≤ gb291)); have n13_ := Aside0.mk ((by rw [hg]; exact Nat.ne_of_lt (blk_lt (bk_ BK240.out)) : gb240 ≠ gb291)); have n14_ := Aside0.mk ((by rw [hg]; exact Nat.ne_of_gt (blk_lt (bk_ BK240.out)) : gb291 ≠ gb240)); have n15_ := Aside0.mk ((by rw [hg]; exact Nat.ne_of_lt (blk_lt (bk_ BK253.out)) : gb253 ≠ gb291)); have n16_ := Aside0.mk ((by rw [hg]; exact Nat.ne_of_gt (blk_lt (bk_ BK253.out)) : gb291 ≠ gb253)); have n17_ := Aside0.mk ((by rw [hg]; exact Nat.ne_of_lt (blk_lt (bk_ BK259.out)) : gb259 ≠ gb291)); have n18_ := Aside0.mk ((by rw [hg]; exact Nat.ne_of_gt (blk_lt (bk_ BK259.out)) : gb291 ≠ gb259)); have n19_ := Aside0.mk ((by rw [hg]; exact Nat.ne_of_lt (blk_lt (bk_ BK266.out)) : gb266 ≠ gb291)); have n20_ := Aside0.mk ((by rw [hg]; exact Nat.ne_of_gt (blk_lt (bk_ BK266.out)) : gb291 ≠ gb266)); clear HO_254001; clear HO_260001; clear HO_267001; clear HO283; clear HO288; clear BK240; clear BK253; clear BK259; clear BK266; clear HB; have HO_254001 := n0_; have HO_260001 := n1_; have HO_267001 := n2_; have HO283 := n3_; have HO288 := n4_; have BK240 := n5_; have BK253 := n6_; have BK259 := n7_; have BK266 := n8_; have HB := n9_; have BK291 := n10_; have GW291 := n11_; have GE291 := n12_; have NB240_291 := n13_; have NB291_240 := n14_; have NB253_291 := n15_; have NB291_253 := n16_; have NB259_291 := n17_; have NB291_259 := n18_; have NB266_291 := n19_; have NB291_266 := n20_; clear n0_ n1_ n2_ n3_ n4_ n5_ n6_ n7_ n8_ n9_ n10_ n11_ n12_ n13_ n14_ n15_ n16_ n17_ n18_ n19_ n20_; clear hb hbox hg; have hnb113 := NB291_240.out; have hnc113 := NB240_291.out; have hnb114 := NB291_253.out; have hnc114 := NB253_291.out; have hnb115 := NB291_259.out; have hnc115 := NB259_291.out; have hnb116 := NB291_266.out; have hnc116 := NB266_291.out; have hcz117_0 := cq_ BK291.out 0 (.int .i64 0); have hcz117_1 := cq_ BK291.out 1 (.slice none 0 0); have hcz117_2 := cq_ BK291.out 2 (.int .i64 0); have hfz117_0 := blk_frozen BK291.out 0; have hfz117_1 := blk_frozen BK291.out 1; have hfz117_2 := blk_frozen BK291.out 2; obtain ⟨Ao118, co118, eo118⟩ := Kd.R_slice HO288.out; subst eo118))
                      (try simp only [Act.put, List.setIfInBounds_toArray, List.set_cons_zero, List.set_cons_succ])
                      go_cut [97] (fun v97 wc => ∃ (kq : Nat) (x97_97 : Bool), v97 = .bool x97_97 ∧ Aside0 (laws_FnExactFixVar.j2 kq t277 x97_97 t260 t278 t264 = some r) ∧ Aside0 (kq ≤ kj61) ∧ Aside0 (Kd.R k75 75 wc w.heap.size (fun k_ => some k_ ≠ ((.slice Ao31 t275.length co31) : Value).ownBlock ∧ some k_ ≠ ((.slice Ao38 t261.length co38) : Value).ownBlock ∧ some k_ ≠ ((.slice Ao118 t286.length co118) : Value).ownBlock) (.slice Ao24 t248.length co24) t248) ∧ Aside0 (Kd.R k75 75 wc w.heap.size (fun k_ => some k_ ≠ ((.slice Ao24 t248.length co24) : Value).ownBlock ∧ some k_ ≠ ((.slice Ao38 t261.length co38) : Value).ownBlock ∧ some k_ ≠ ((.slice Ao118 t286.length co118) : Value).ownBlock) (.slice Ao31 t275.length co31) t275) ∧ Aside0 (Kd.R k75 75 wc w.heap.size (fun k_ => some k_ ≠ ((.slice Ao24 t248.length co24) : Value).ownBlock ∧ some k_ ≠ ((.slice Ao31 t275.length co31) : Value).ownBlock ∧ some k_ ≠ ((.slice Ao118 t286.length co118) : Value).ownBlock) (.slice Ao38 t261.length co38) t278) ∧ Aside0 (Kd.R k75 75 wc w.heap.size (fun k_ => some k_ ≠ ((.slice Ao24 t248.length co24) : Value).ownBlock ∧ some k_ ≠ ((.slice Ao31 t275.length co31) : Value).ownBlock ∧ some k_ ≠ ((.slice Ao38 t261.length co38) : Value).ownBlock) (.slice Ao118 t286.length co118) t286) ∧ Aside0 (wc.heap[gb240]? = some (.cells #[.int .i64 a0_0, (.slice A0_1 l0_1.length c0_1), .int .i64 a0_2] 24 (0, 0))) ∧ Aside0 (wc.heap[gb253]? = some (.cells #[.int .i64 t247, (.slice Ao24 t248.length co24), .int .i64 t251] 30 (0, 0))) ∧ Aside0 (wc.heap[gb259]? = some (.cells #[.int .i64 t254, (.slice Ao31 t275.length co31), .int .i64 t258] 30 (0, 0))) ∧ Aside0 (wc.heap[gb266]? = some (.cells #[.int .i64 t260, (.slice Ao38 t261.length co38), .int .i64 t264] 30 (0, 0))) ∧ Aside0 (wc.heap[gb291]? = some (.cells #[.int .i64 t285, (.slice Ao118 t286.length co118), .int .i64 t289] 30 (0, 0))) ∧ Aside0 (Below w.heap.size w wc))
                      case first =>
                        have H := HC98.out
                        clear HC98
                        replace H := Option.bind_eq_some_iff.mp H
                        obtain ⟨t292, A1190, H⟩ := H
                        replace H : (if t292 = true then (laws_FnExactFixVar.j2 kj61 t277 (t290 != t252) t260 t278 t264) else (laws_FnExactFixVar.j2 kj61 t277 true t260 t278 t264)) = some r := H
                        have A119 := Aside0.mk A1190
                        clear A1190
                        by_cases c120 : t292 = true
                        · subst c120
                          have H1 : (laws_FnExactFixVar.j2 kj61 t277 (t290 != t252) t260 t278 t264) = some r := by rw [if_pos rfl] at H; exact H
                          clear H
                          have H := H1
                          clear H1
                          have H' := Aside0.mk H
                          clear H
                          have hnb121 := NB291_240.out
                          have hnc121 := NB240_291.out
                          have hnb122 := NB291_253.out
                          have hnc122 := NB253_291.out
                          have hnb123 := NB291_259.out
                          have hnc123 := NB259_291.out
                          have hnb124 := NB291_266.out
                          have hnc124 := NB266_291.out
                          have hcz125_0 := cq_ BK291.out 0 (.int .i64 0)
                          have hcz125_1 := cq_ BK291.out 1 (.slice none 0 0)
                          have hcz125_2 := cq_ BK291.out 2 (.int .i64 0)
                          have hfz125_0 := blk_frozen BK291.out 0
                          have hfz125_1 := blk_frozen BK291.out 1
                          have hfz125_2 := blk_frozen BK291.out 2
                          have hnb126 := NB253_240.out
                          have hnc126 := NB240_253.out
                          have hnb127 := NB253_259.out
                          have hnc127 := NB259_253.out
                          have hnb128 := NB253_266.out
                          have hnc128 := NB266_253.out
                          have hcz129_0 := cq_ BK253.out 0 (.int .i64 t247)
                          have hcz129_1 := cq_ BK253.out 1 (.slice Ao24 t248.length co24)
                          have hcz129_2 := cq_ BK253.out 2 (.int .i64 t251)
                          have hfz129_0 := blk_frozen BK253.out 0
                          have hfz129_1 := blk_frozen BK253.out 1
                          have hfz129_2 := blk_frozen BK253.out 2
                          go_wp2_with (first | ((with_reducible refine gate_callee (f := 16) rfl ?_); refine goesL_ (some 91) rfl rfl Try.func16 (by kernel_rfl) rfl #[.agg #[.int .i64 t285, .slice Ao118 t286.length co118, .int .i64 t289], .agg #[.int .i64 t247, .slice Ao24 t248.length co24, .int .i64 t251]] rfl (by (try simp only [List.map_toArray, List.map_cons, List.map_nil]); first | done | rfl | (simp only [List.length_drop, List.length_take]; rfl)) ?_; (with_reducible refine (laws_eqDiagram.calls kj61 t285 _ _ t286 t289 t247 _ _ t248 t251 true _ ?side1 ?side2 ?side3 ?side4 A119.out).mono ?_); (case side1 => refine (Kd.R_reads' (e := 75) (base := w.heap.size) (ok := fun k_ => ((((True ∧ some k_ ≠ (.slice Ao24 t248.length co24 : Value).ownBlock) ∧ some k_ ≠ (.slice Ao31 t275.length co31 : Value).ownBlock) ∧ some k_ ≠ (.slice Ao38 t261.length co38 : Value).ownBlock) ∧ some k_ ≠ (.slice Ao110 t281.length co110 : Value).ownBlock)) (n := t286.length) (c := co118) ?_).2.2; exact (rq_ ((Kd.R_mono (Kd.R_far (p := ⟨gb291, 2, none⟩) (Kd.R_far (p := ⟨gb291, 1, none⟩) (Kd.R_far (p := ⟨gb291, 0, none⟩) (Kd.R_types HO288.out BK291.out (by decide)) (fun _ hk => hk.2) (.int .i64 t285)) (fun _ hk => hk.2) (.slice Ao118 t286.length co118)) (fun _ hk => hk.2) (.int .i64 t289)) (fun _ h_ => h_.1))))); (case side2 => exact (Kd.R_reads' HO288.out).2.1); (case side3 => refine (Kd.R_reads' (e := 75) (base := w.heap.size) (ok := fun k_ => (((some k_ ≠ (.slice Ao31 t275.length co31 : Value).ownBlock ∧ some k_ ≠ (.slice Ao38 t261.length co38 : Value).ownBlock) ∧ some k_ ≠ (.slice Ao110 t281.length co110 : Value).ownBlock) ∧ some k_ ≠ (.slice Ao118 t286.length co118 : Value).ownBlock)) (n := t248.length) (c := co24) ?_).2.2; exact (rq_ ((Kd.R_mono (Kd.R_far (p := ⟨gb291, 2, none⟩) (Kd.R_far (p := ⟨gb291, 1, none⟩) (Kd.R_far (p := ⟨gb291, 0, none⟩) (Kd.R_types HO_254001.out BK291.out (by decide)) (fun _ hk => hk.2) (.int .i64 t285)) (fun _ hk => hk.2) (.slice Ao118 t286.length co118)) (fun _ hk => hk.2) (.int .i64 t289)) (fun _ h_ => h_.1))))); (case side4 => exact (Kd.R_reads' HO_254001.out).2.1); rintro e w130 ⟨rfl, hb⟩; refine ⟨_, rfl, ?_⟩; have n0_ := Aside0.mk (Kd.R_below (rq_ ((Kd.R_mono (Kd.R_far (p := ⟨gb291, 2, none⟩) (Kd.R_far (p := ⟨gb291, 1, none⟩) (Kd.R_far (p := ⟨gb291, 0, none⟩) (Kd.R_types HO_254001.out BK291.out (by decide)) (fun _ hk => hk.2) (.int .i64 t285)) (fun _ hk => hk.2) (.slice Ao118 t286.length co118)) (fun _ hk => hk.2) (.int .i64 t289)) (fun _ h_ => h_.1)))) hb); have n1_ := Aside0.mk (Kd.R_below (rq_ ((Kd.R_mono (Kd.R_far (p := ⟨gb291, 2, none⟩) (Kd.R_far (p := ⟨gb291, 1, none⟩) (Kd.R_far (p := ⟨gb291, 0, none⟩) (Kd.R_types HO_260001.out BK291.out (by decide)) (fun _ hk => hk.2) (.int .i64 t285)) (fun _ hk => hk.2) (.slice Ao118 t286.length co118)) (fun _ hk => hk.2) (.int .i64 t289)) (fun _ h_ => h_.1)))) hb); have n2_ := Aside0.mk (Kd.R_below (rq_ ((Kd.R_mono (Kd.R_far (p := ⟨gb291, 2, none⟩) (Kd.R_far (p := ⟨gb291, 1, none⟩) (Kd.R_far (p := ⟨gb291, 0, none⟩) (Kd.R_types HO_267001.out BK291.out (by decide)) (fun _ hk => hk.2) (.int .i64 t285)) (fun _ hk => hk.2) (.slice Ao118 t286.length co118)) (fun _ hk => hk.2) (.int .i64 t289)) (fun _ h_ => h_.1)))) hb); have n3_ := Aside0.mk (Kd.R_below (rq_ ((Kd.R_mono (Kd.R_far (p := ⟨gb291, 2, none⟩) (Kd.R_far (p := ⟨gb291, 1, none⟩) (Kd.R_far (p := ⟨gb291, 0, none⟩) (Kd.R_types HO283.out BK291.out (by decide)) (fun _ hk => hk.2) (.int .i64 t285)) (fun _ hk => hk.2) (.slice Ao118 t286.length co118)) (fun _ hk => hk.2) (.int .i64 t289)) (fun _ h_ => h_.1)))) hb); have n4_ := Aside0.mk (Kd.R_below (rq_ ((Kd.R_mono (Kd.R_far (p := ⟨gb291, 2, none⟩) (Kd.R_far (p := ⟨gb291, 1, none⟩) (Kd.R_far (p := ⟨gb291, 0, none⟩) (Kd.R_types HO288.out BK291.out (by decide)) (fun _ hk => hk.2) (.int .i64 t285)) (fun _ hk => hk.2) (.slice Ao118 t286.length co118)) (fun _ hk => hk.2) (.int .i64 t289)) (fun _ h_ => h_.1)))) hb); have n5_ := Aside0.mk (blk_below (g := gb240) (o := .cells #[.int .i64 a0_0, .slice A0_1 l0_1.length c0_1, .int .i64 a0_2] 24 (0, 0)) (by (with_reducible repeat (first | refine blk_drewN ?_ _ | refine blk_drew ?_ | refine blk_alloc ?_ _)); refine blk_far ?_ NB240_291.out _; (with_reducible repeat (first | refine blk_drewN ?_ _ | refine blk_drew ?_ | refine blk_alloc ?_ _)); refine blk_far ?_ NB240_291.out _; (with_reducible repeat (first | refine blk_drewN ?_ _ | refine blk_drew ?_ | refine blk_alloc ?_ _)); refine blk_far ?_ NB240_291.out _; (with_reducible repeat (first | refine blk_drewN ?_ _ | refine blk_drew ?_ | refine blk_alloc ?_ _)); exact BK240.out) hb); have n6_ := Aside0.mk (blk_below (g := gb253) (o := .cells #[.int .i64 t247, .slice Ao24 t248.length co24, .int .i64 t251] 30 (0, 0)) (by (with_reducible repeat (first | refine blk_drewN ?_ _ | refine blk_drew ?_ | refine blk_alloc ?_ _)); refine blk_far ?_ NB253_291.out _; (with_reducible repeat (first | refine blk_drewN ?_ _ | refine blk_drew ?_ | refine blk_alloc ?_ _)); refine blk_far ?_ NB253_291.out _; (with_reducible repeat (first | refine blk_drewN ?_ _ | refine blk_drew ?_ | refine blk_alloc ?_ _)); refine blk_far ?_ NB253_291.out _; (with_reducible repeat (first | refine blk_drewN ?_ _ | refine blk_drew ?_ | refine blk_alloc ?_ _)); exact BK253.out) hb); have n7_ := Aside0.mk (blk_below (g := gb259) (o := .cells #[.int .i64 t254, .slice Ao31 t275.length co31, .int .i64 t258] 30 (0, 0)) (by (with_reducible repeat (first | refine blk_drewN ?_ _ | refine blk_drew ?_ | refine blk_alloc ?_ _)); refine blk_far ?_ NB259_291.out _; (with_reducible repeat (first | refine blk_drewN ?_ _ | refine blk_drew ?_ | refine blk_alloc ?_ _)); refine blk_far ?_ NB259_291.out _; (with_reducible repeat (first | refine blk_drewN ?_ _ | refine blk_drew ?_ | refine blk_alloc ?_ _)); refine blk_far ?_ NB259_291.out _; (with_reducible repeat (first | refine blk_drewN ?_ _ | refine blk_drew ?_ | refine blk_alloc ?_ _)); exact BK259.out) hb); have n8_ := Aside0.mk (blk_below (g := gb266) (o := .cells #[.int .i64 t260, .slice Ao38 t261.length co38, .int .i64 t264] 30 (0, 0)) (by (with_reducible repeat (first | refine blk_drewN ?_ _ | refine blk_drew ?_ | refine blk_alloc ?_ _)); refine blk_far ?_ NB266_291.out _; (with_reducible repeat (first | refine blk_drewN ?_ _ | refine blk_drew ?_ | refine blk_alloc ?_ _)); refine blk_far ?_ NB266_291.out _; (with_reducible repeat (first | refine blk_drewN ?_ _ | refine blk_drew ?_ | refine blk_alloc ?_ _)); refine blk_far ?_ NB266_291.out _; (with_reducible repeat (first | refine blk_drewN ?_ _ | refine blk_drew ?_ | refine blk_alloc ?_ _)); exact BK266.out) hb); have n9_ := Aside0.mk (blk_below (g := gb291) (o := .cells #[.int .i64 t285, .slice Ao118 t286.length co118, .int .i64 t289] 30 (0, 0)) (by (with_reducible repeat (first | refine blk_drewN ?_ _ | refine blk_drew ?_ | refine blk_alloc ?_ _)); refine blk_put (cs := #[.int .i64 t285, .slice Ao118 t286.length co118, .int .i64 0]) ?_ 2 _ rfl; (with_reducible repeat (first | refine blk_drewN ?_ _ | refine blk_drew ?_ | refine blk_alloc ?_ _)); refine blk_put (cs := #[.int .i64 t285, .slice none 0 0, .int .i64 0]) ?_ 1 _ rfl; (with_reducible repeat (first | refine blk_drewN ?_ _ | refine blk_drew ?_ | refine blk_alloc ?_ _)); refine blk_put (cs := #[.int .i64 0, .slice none 0 0, .int .i64 0]) ?_ 0 _ rfl; (with_reducible repeat (first | refine blk_drewN ?_ _ | refine blk_drew ?_ | refine blk_alloc ?_ _)); exact BK291.out) hb); have n10_ := Aside0.mk (below_step (bq_) hb); clear HO_254001; clear HO_260001; clear HO_267001; clear HO283; clear HO288; clear BK240; clear BK253; clear BK259; clear BK266; clear BK291; clear HB; have HO_254001 := n0_; have HO_260001 := n1_; have HO_267001 := n2_; have HO283 := n3_; have HO288 := n4_; have BK240 := n5_; have BK253 := n6_; have BK259 := n7_; have BK266 := n8_; have BK291 := n9_; have HB := n10_; clear n0_ n1_ n2_ n3_ n4_ n5_ n6_ n7_ n8_ n9_ n10_; (try clear hb); (try clear hb2); (try clear hk); (try clear hi)))
                          go_meet
                          case rel => exact ⟨_, ((t290 != t252)), (by first | rfl | (simp; done) | (simp [*]; done)), H', ⟨by have := HJ12.out; have := HJ61.out; first | omega | exact Nat.le_refl _⟩, ⟨by (try simp only [hl260001_61]); (with_reducible repeat (first | apply Kd.R_alloc | apply Kd.R_drewN | apply Kd.R_drew)); exact Kd.R_mono HO_254001.out (fun _ hk => ⟨hk.1.1.1, ⟨hk.1.1.2, hk.2⟩⟩)⟩, ⟨by (try simp only [hl260001_61]); (with_reducible repeat (first | apply Kd.R_alloc | apply Kd.R_drewN | apply Kd.R_drew)); exact Kd.R_mono HO_260001.out (fun _ hk => ⟨hk.1.1.1, ⟨hk.1.1.2, hk.2⟩⟩)⟩, ⟨by (try simp only [hl260001_61]); (with_reducible repeat (first | apply Kd.R_alloc | apply Kd.R_drewN | apply Kd.R_drew)); exact Kd.R_mono HO_267001.out (fun _ hk => ⟨hk.1.1.1, ⟨hk.1.1.2, hk.2⟩⟩)⟩, ⟨by (try simp only [hl260001_61]); (with_reducible repeat (first | apply Kd.R_alloc | apply Kd.R_drewN | apply Kd.R_drew)); exact Kd.R_mono HO288.out (fun _ hk => ⟨hk.1.1.1.2, ⟨hk.1.1.2, hk.1.2⟩⟩)⟩, ⟨by (try simp only [hl260001_61]); (with_reducible repeat (first | refine blk_drewN ?_ _ | refine blk_drew ?_ | refine blk_alloc ?_ _)); exact BK240.out⟩, ⟨by (try simp only [hl260001_61]); (with_reducible repeat (first | refine blk_drewN ?_ _ | refine blk_drew ?_ | refine blk_alloc ?_ _)); exact BK253.out⟩, ⟨by (try simp only [hl260001_61]); (with_reducible repeat (first | refine blk_drewN ?_ _ | refine blk_drew ?_ | refine blk_alloc ?_ _)); exact BK259.out⟩, ⟨by (try simp only [hl260001_61]); (with_reducible repeat (first | refine blk_drewN ?_ _ | refine blk_drew ?_ | refine blk_alloc ?_ _)); exact BK266.out⟩, ⟨by (try simp only [hl260001_61]); (with_reducible repeat (first | refine blk_drewN ?_ _ | refine blk_drew ?_ | refine blk_alloc ?_ _)); exact BK291.out⟩, ⟨bq_⟩⟩
                        · replace c120 := Bool.eq_false_iff.mpr c120
                          subst c120
                          have H1 : (laws_FnExactFixVar.j2 kj61 t277 true t260 t278 t264) = some r := by rw [if_neg (show ¬ (false = true) by decide)] at H; exact H
                          clear H
                          have H := H1
                          clear H1
                          have H' := Aside0.mk H
                          clear H
                          have hnb131 := NB291_240.out
                          have hnc131 := NB240_291.out
                          have hnb132 := NB291_253.out
                          have hnc132 := NB253_291.out
                          have hnb133 := NB291_259.out
                          have hnc133 := NB259_291.out
                          have hnb134 := NB291_266.out
                          have hnc134 := NB266_291.out
                          have hcz135_0 := cq_ BK291.out 0 (.int .i64 0)
                          have hcz135_1 := cq_ BK291.out 1 (.slice none 0 0)
                          have hcz135_2 := cq_ BK291.out 2 (.int .i64 0)
                          have hfz135_0 := blk_frozen BK291.out 0
                          have hfz135_1 := blk_frozen BK291.out 1
                          have hfz135_2 := blk_frozen BK291.out 2
                          have hnb136 := NB253_240.out
                          have hnc136 := NB240_253.out
                          have hnb137 := NB253_259.out
                          have hnc137 := NB259_253.out
                          have hnb138 := NB253_266.out
                          have hnc138 := NB266_253.out
                          have hcz139_0 := cq_ BK253.out 0 (.int .i64 t247)
                          have hcz139_1 := cq_ BK253.out 1 (.slice Ao24 t248.length co24)
                          have hcz139_2 := cq_ BK253.out 2 (.int .i64 t251)
                          have hfz139_0 := blk_frozen BK253.out 0
                          have hfz139_1 := blk_frozen BK253.out 1
                          have hfz139_2 := blk_frozen BK253.out 2
                          go_wp2_with (first | ((with_reducible refine gate_callee (f := 16) rfl ?_); refine goesL_ (some 91) rfl rfl Try.func16 (by kernel_rfl) rfl #[.agg #[.int .i64 t285, .slice Ao118 t286.length co118, .int .i64 t289], .agg #[.int .i64 t247, .slice Ao24 t248.length co24, .int .i64 t251]] rfl (by (try simp only [List.map_toArray, List.map_cons, List.map_nil]); first | done | rfl | (simp only [List.length_drop, List.length_take]; rfl)) ?_; (with_reducible refine (laws_eqDiagram.calls kj61 t285 _ _ t286 t289 t247 _ _ t248 t251 false _ ?side1 ?side2 ?side3 ?side4 A119.out).mono ?_); (case side1 => refine (Kd.R_reads' (e := 75) (base := w.heap.size) (ok := fun k_ => ((((True ∧ some k_ ≠ (.slice Ao24 t248.length co24 : Value).ownBlock) ∧ some k_ ≠ (.slice Ao31 t275.length co31 : Value).ownBlock) ∧ some k_ ≠ (.slice Ao38 t261.length co38 : Value).ownBlock) ∧ some k_ ≠ (.slice Ao110 t281.length co110 : Value).ownBlock)) (n := t286.length) (c := co118) ?_).2.2; exact (rq_ ((Kd.R_mono (Kd.R_far (p := ⟨gb291, 2, none⟩) (Kd.R_far (p := ⟨gb291, 1, none⟩) (Kd.R_far (p := ⟨gb291, 0, none⟩) (Kd.R_types HO288.out BK291.out (by decide)) (fun _ hk => hk.2) (.int .i64 t285)) (fun _ hk => hk.2) (.slice Ao118 t286.length co118)) (fun _ hk => hk.2) (.int .i64 t289)) (fun _ h_ => h_.1))))); (case side2 => exact (Kd.R_reads' HO288.out).2.1); (case side3 => refine (Kd.R_reads' (e := 75) (base := w.heap.size) (ok := fun k_ => (((some k_ ≠ (.slice Ao31 t275.length co31 : Value).ownBlock ∧ some k_ ≠ (.slice Ao38 t261.length co38 : Value).ownBlock) ∧ some k_ ≠ (.slice Ao110 t281.length co110 : Value).ownBlock) ∧ some k_ ≠ (.slice Ao118 t286.length co118 : Value).ownBlock)) (n := t248.length) (c := co24) ?_).2.2; exact (rq_ ((Kd.R_mono (Kd.R_far (p := ⟨gb291, 2, none⟩) (Kd.R_far (p := ⟨gb291, 1, none⟩) (Kd.R_far (p := ⟨gb291, 0, none⟩) (Kd.R_types HO_254001.out BK291.out (by decide)) (fun _ hk => hk.2) (.int .i64 t285)) (fun _ hk => hk.2) (.slice Ao118 t286.length co118)) (fun _ hk => hk.2) (.int .i64 t289)) (fun _ h_ => h_.1))))); (case side4 => exact (Kd.R_reads' HO_254001.out).2.1); rintro e w140 ⟨rfl, hb⟩; refine ⟨_, rfl, ?_⟩; have n0_ := Aside0.mk (Kd.R_below (rq_ ((Kd.R_mono (Kd.R_far (p := ⟨gb291, 2, none⟩) (Kd.R_far (p := ⟨gb291, 1, none⟩) (Kd.R_far (p := ⟨gb291, 0, none⟩) (Kd.R_types HO_254001.out BK291.out (by decide)) (fun _ hk => hk.2) (.int .i64 t285)) (fun _ hk => hk.2) (.slice Ao118 t286.length co118)) (fun _ hk => hk.2) (.int .i64 t289)) (fun _ h_ => h_.1)))) hb); have n1_ := Aside0.mk (Kd.R_below (rq_ ((Kd.R_mono (Kd.R_far (p := ⟨gb291, 2, none⟩) (Kd.R_far (p := ⟨gb291, 1, none⟩) (Kd.R_far (p := ⟨gb291, 0, none⟩) (Kd.R_types HO_260001.out BK291.out (by decide)) (fun _ hk => hk.2) (.int .i64 t285)) (fun _ hk => hk.2) (.slice Ao118 t286.length co118)) (fun _ hk => hk.2) (.int .i64 t289)) (fun _ h_ => h_.1)))) hb); have n2_ := Aside0.mk (Kd.R_below (rq_ ((Kd.R_mono (Kd.R_far (p := ⟨gb291, 2, none⟩) (Kd.R_far (p := ⟨gb291, 1, none⟩) (Kd.R_far (p := ⟨gb291, 0, none⟩) (Kd.R_types HO_267001.out BK291.out (by decide)) (fun _ hk => hk.2) (.int .i64 t285)) (fun _ hk => hk.2) (.slice Ao118 t286.length co118)) (fun _ hk => hk.2) (.int .i64 t289)) (fun _ h_ => h_.1)))) hb); have n3_ := Aside0.mk (Kd.R_below (rq_ ((Kd.R_mono (Kd.R_far (p := ⟨gb291, 2, none⟩) (Kd.R_far (p := ⟨gb291, 1, none⟩) (Kd.R_far (p := ⟨gb291, 0, none⟩) (Kd.R_types HO283.out BK291.out (by decide)) (fun _ hk => hk.2) (.int .i64 t285)) (fun _ hk => hk.2) (.slice Ao118 t286.length co118)) (fun _ hk => hk.2) (.int .i64 t289)) (fun _ h_ => h_.1)))) hb); have n4_ := Aside0.mk (Kd.R_below (rq_ ((Kd.R_mono (Kd.R_far (p := ⟨gb291, 2, none⟩) (Kd.R_far (p := ⟨gb291, 1, none⟩) (Kd.R_far (p := ⟨gb291, 0, none⟩) (Kd.R_types HO288.out BK291.out (by decide)) (fun _ hk => hk.2) (.int .i64 t285)) (fun _ hk => hk.2) (.slice Ao118 t286.length co118)) (fun _ hk => hk.2) (.int .i64 t289)) (fun _ h_ => h_.1)))) hb); have n5_ := Aside0.mk (blk_below (g := gb240) (o := .cells #[.int .i64 a0_0, .slice A0_1 l0_1.length c0_1, .int .i64 a0_2] 24 (0, 0)) (by (with_reducible repeat (first | refine blk_drewN ?_ _ | refine blk_drew ?_ | refine blk_alloc ?_ _)); refine blk_far ?_ NB240_291.out _; (with_reducible repeat (first | refine blk_drewN ?_ _ | refine blk_drew ?_ | refine blk_alloc ?_ _)); refine blk_far ?_ NB240_291.out _; (with_reducible repeat (first | refine blk_drewN ?_ _ | refine blk_drew ?_ | refine blk_alloc ?_ _)); refine blk_far ?_ NB240_291.out _; (with_reducible repeat (first | refine blk_drewN ?_ _ | refine blk_drew ?_ | refine blk_alloc ?_ _)); exact BK240.out) hb); have n6_ := Aside0.mk (blk_below (g := gb253) (o := .cells #[.int .i64 t247, .slice Ao24 t248.length co24, .int .i64 t251] 30 (0, 0)) (by (with_reducible repeat (first | refine blk_drewN ?_ _ | refine blk_drew ?_ | refine blk_alloc ?_ _)); refine blk_far ?_ NB253_291.out _; (with_reducible repeat (first | refine blk_drewN ?_ _ | refine blk_drew ?_ | refine blk_alloc ?_ _)); refine blk_far ?_ NB253_291.out _; (with_reducible repeat (first | refine blk_drewN ?_ _ | refine blk_drew ?_ | refine blk_alloc ?_ _)); refine blk_far ?_ NB253_291.out _; (with_reducible repeat (first | refine blk_drewN ?_ _ | refine blk_drew ?_ | refine blk_alloc ?_ _)); exact BK253.out) hb); have n7_ := Aside0.mk (blk_below (g := gb259) (o := .cells #[.int .i64 t254, .slice Ao31 t275.length co31, .int .i64 t258] 30 (0, 0)) (by (with_reducible repeat (first | refine blk_drewN ?_ _ | refine blk_drew ?_ | refine blk_alloc ?_ _)); refine blk_far ?_ NB259_291.out _; (with_reducible repeat (first | refine blk_drewN ?_ _ | refine blk_drew ?_ | refine blk_alloc ?_ _)); refine blk_far ?_ NB259_291.out _; (with_reducible repeat (first | refine blk_drewN ?_ _ | refine blk_drew ?_ | refine blk_alloc ?_ _)); refine blk_far ?_ NB259_291.out _; (with_reducible repeat (first | refine blk_drewN ?_ _ | refine blk_drew ?_ | refine blk_alloc ?_ _)); exact BK259.out) hb); have n8_ := Aside0.mk (blk_below (g := gb266) (o := .cells #[.int .i64 t260, .slice Ao38 t261.length co38, .int .i64 t264] 30 (0, 0)) (by (with_reducible repeat (first | refine blk_drewN ?_ _ | refine blk_drew ?_ | refine blk_alloc ?_ _)); refine blk_far ?_ NB266_291.out _; (with_reducible repeat (first | refine blk_drewN ?_ _ | refine blk_drew ?_ | refine blk_alloc ?_ _)); refine blk_far ?_ NB266_291.out _; (with_reducible repeat (first | refine blk_drewN ?_ _ | refine blk_drew ?_ | refine blk_alloc ?_ _)); refine blk_far ?_ NB266_291.out _; (with_reducible repeat (first | refine blk_drewN ?_ _ | refine blk_drew ?_ | refine blk_alloc ?_ _)); exact BK266.out) hb); have n9_ := Aside0.mk (blk_below (g := gb291) (o := .cells #[.int .i64 t285, .slice Ao118 t286.length co118, .int .i64 t289] 30 (0, 0)) (by (with_reducible repeat (first | refine blk_drewN ?_ _ | refine blk_drew ?_ | refine blk_alloc ?_ _)); refine blk_put (cs := #[.int .i64 t285, .slice Ao118 t286.length co118, .int .i64 0]) ?_ 2 _ rfl; (with_reducible repeat (first | refine blk_drewN ?_ _ | refine blk_drew ?_ | refine blk_alloc ?_ _)); refine blk_put (cs := #[.int .i64 t285, .slice none 0 0, .int .i64 0]) ?_ 1 _ rfl; (with_reducible repeat (first | refine blk_drewN ?_ _ | refine blk_drew ?_ | refine blk_alloc ?_ _)); refine blk_put (cs := #[.int .i64 0, .slice none 0 0, .int .i64 0]) ?_ 0 _ rfl; (with_reducible repeat (first | refine blk_drewN ?_ _ | refine blk_drew ?_ | refine blk_alloc ?_ _)); exact BK291.out) hb); have n10_ := Aside0.mk (below_step (bq_) hb); clear HO_254001; clear HO_260001; clear HO_267001; clear HO283; clear HO288; clear BK240; clear BK253; clear BK259; clear BK266; clear BK291; clear HB; have HO_254001 := n0_; have HO_260001 := n1_; have HO_267001 := n2_; have HO283 := n3_; have HO288 := n4_; have BK240 := n5_; have BK253 := n6_; have BK259 := n7_; have BK266 := n8_; have BK291 := n9_; have HB := n10_; clear n0_ n1_ n2_ n3_ n4_ n5_ n6_ n7_ n8_ n9_ n10_; (try clear hb); (try clear hb2); (try clear hk); (try clear hi)))
                          go_meet
                          case rel => exact ⟨_, (true), (by first | rfl | (simp; done) | (simp [*]; done)), H', ⟨by have := HJ12.out; have := HJ61.out; first | omega | exact Nat.le_refl _⟩, ⟨by (try simp only [hl260001_61]); (with_reducible repeat (first | apply Kd.R_alloc | apply Kd.R_drewN | apply Kd.R_drew)); exact Kd.R_mono HO_254001.out (fun _ hk => ⟨hk.1.1.1, ⟨hk.1.1.2, hk.2⟩⟩)⟩, ⟨by (try simp only [hl260001_61]); (with_reducible repeat (first | apply Kd.R_alloc | apply Kd.R_drewN | apply Kd.R_drew)); exact Kd.R_mono HO_260001.out (fun _ hk => ⟨hk.1.1.1, ⟨hk.1.1.2, hk.2⟩⟩)⟩, ⟨by (try simp only [hl260001_61]); (with_reducible repeat (first | apply Kd.R_alloc | apply Kd.R_drewN | apply Kd.R_drew)); exact Kd.R_mono HO_267001.out (fun _ hk => ⟨hk.1.1.1, ⟨hk.1.1.2, hk.2⟩⟩)⟩, ⟨by (try simp only [hl260001_61]); (with_reducible repeat (first | apply Kd.R_alloc | apply Kd.R_drewN | apply Kd.R_drew)); exact Kd.R_mono HO288.out (fun _ hk => ⟨hk.1.1.1.2, ⟨hk.1.1.2, hk.1.2⟩⟩)⟩, ⟨by (try simp only [hl260001_61]); (with_reducible repeat (first | refine blk_drewN ?_ _ | refine blk_drew ?_ | refine blk_alloc ?_ _)); exact BK240.out⟩, ⟨by (try simp only [hl260001_61]); (with_reducible repeat (first | refine blk_drewN ?_ _ | refine blk_drew ?_ | refine blk_alloc ?_ _)); exact BK253.out⟩, ⟨by (try simp only [hl260001_61]); (with_reducible repeat (first | refine blk_drewN ?_ _ | refine blk_drew ?_ | refine blk_alloc ?_ _)); exact BK259.out⟩, ⟨by (try simp only [hl260001_61]); (with_reducible repeat (first | refine blk_drewN ?_ _ | refine blk_drew ?_ | refine blk_alloc ?_ _)); exact BK266.out⟩, ⟨by (try simp only [hl260001_61]); (with_reducible repeat (first | refine blk_drewN ?_ _ | refine blk_drew ?_ | refine blk_alloc ?_ _)); exact BK291.out⟩, ⟨bq_⟩⟩
                      case rest =>
                        clear HC98
                        try clear c1
                        try clear c2
                        try clear p2
                        try clear c3
                        try clear c4
                        try clear c5
                        try clear c5b0
                        try clear c6
                        try clear c7
                        try clear c8
                        try clear c9
                        try clear c10
                        try clear c11
                        try clear c12
                        try clear c13
                        try clear c14
                        try clear c16
                        try clear c22
                        try clear c23
                        try clear c28
                        try clear c29
                        try clear c31
                        try clear c32
                        try clear c34
                        try clear c35
                        try clear c36
                        try clear c40
                        try clear c41
                        try clear c42
                        try clear c43
                        try clear c45
                        try clear c46
                        try clear c49
                        try clear c50
                        try clear c51
                        try clear c53
                        try clear c54
                        try clear c57
                        try clear c60
                        try clear c67
                        try clear c68
                        try clear c69
                        try clear c72
                        try clear c72b0
                        try clear c74
                        try clear c75
                        try clear c76
                        try clear c77
                        try clear c79
                        try clear c80
                        try clear c83
                        try clear c84
                        try clear c85
                        try clear c87
                        try clear c88
                        try clear c91
                        try clear c94
                        try clear c94b0
                        try clear c95
                        try clear c95b0
                        try clear c95b1
                        try clear c99
                        try clear c100
                        try clear c101
                        try clear c106
                        try clear c107
                        try clear c113
                        try clear c114
                        try clear c115
                        try clear c116
                        try clear c120
                        try clear c121
                        try clear c122
                        try clear c123
                        try clear c124
                        try clear c126
                        try clear c127
                        try clear c128
                        try clear c131
                        try clear c132
                        try clear c133
                        try clear c134
                        try clear c136
                        try clear c137
                        try clear c138
                        try clear hcz102_0
                        try clear hcz102_1
                        try clear hcz102_2
                        try clear hcz104_0
                        try clear hcz104_1
                        try clear hcz104_2
                        try clear hcz108_0
                        try clear hcz108_1
                        try clear hcz108_2
                        try clear hcz117_0
                        try clear hcz117_1
                        try clear hcz117_2
                        try clear hcz125_0
                        try clear hcz125_1
                        try clear hcz125_2
                        try clear hcz129_0
                        try clear hcz129_1
                        try clear hcz129_2
                        try clear hcz135_0
                        try clear hcz135_1
                        try clear hcz135_2
                        try clear hcz139_0
                        try clear hcz139_1
                        try clear hcz139_2
                        try clear hcz15_0
                        try clear hcz15_1
                        try clear hcz15_2
                        try clear hcz17_0
                        try clear hcz17_1
                        try clear hcz17_2
                        try clear hcz23_0
                        try clear hcz23_1
                        try clear hcz23_2
                        try clear hcz25_0
                        try clear hcz25_1
                        try clear hcz25_2
                        try clear hcz30_0
                        try clear hcz30_1
                        try clear hcz30_2
                        try clear hcz37_0
                        try clear hcz37_1
                        try clear hcz37_2
                        try clear hcz44_0
                        try clear hcz44_1
                        try clear hcz44_2
                        try clear hcz47_0
                        try clear hcz47_1
                        try clear hcz47_2
                        try clear hcz52_0
                        try clear hcz52_1
                        try clear hcz52_2
                        try clear hcz55_0
                        try clear hcz55_1
                        try clear hcz55_2
                        try clear hcz70_0
                        try clear hcz70_1
                        try clear hcz70_2
                        try clear hcz78_0
                        try clear hcz78_1
                        try clear hcz78_2
                        try clear hcz7_0
                        try clear hcz7_1
                        try clear hcz7_2
                        try clear hcz81_0
                        try clear hcz81_1
                        try clear hcz81_2
                        try clear hcz86_0
                        try clear hcz86_1
                        try clear hcz86_2
                        try clear hcz89_0
                        try clear hcz89_1
                        try clear hcz89_2
                        try clear hfz102_0
                        try clear hfz102_1
                        try clear hfz102_2
                        try clear hfz104_0
                        try clear hfz104_1
                        try clear hfz104_2
                        try clear hfz108_0
                        try clear hfz108_1
                        try clear hfz108_2
                        try clear hfz117_0
                        try clear hfz117_1
                        try clear hfz117_2
                        try clear hfz125_0
                        try clear hfz125_1
                        try clear hfz125_2
                        try clear hfz129_0
                        try clear hfz129_1
                        try clear hfz129_2
                        try clear hfz135_0
                        try clear hfz135_1
                        try clear hfz135_2
                        try clear hfz139_0
                        try clear hfz139_1
                        try clear hfz139_2
                        try clear hfz15_0
                        try clear hfz15_1
                        try clear hfz15_2
                        try clear hfz17_0
                        try clear hfz17_1
                        try clear hfz17_2
                        try clear hfz23_0
                        try clear hfz23_1
                        try clear hfz23_2
                        try clear hfz25_0
                        try clear hfz25_1
                        try clear hfz25_2
                        try clear hfz30_0
                        try clear hfz30_1
                        try clear hfz30_2
                        try clear hfz37_0
                        try clear hfz37_1
                        try clear hfz37_2
                        try clear hfz44_0
                        try clear hfz44_1
                        try clear hfz44_2
                        try clear hfz47_0
                        try clear hfz47_1
                        try clear hfz47_2
                        try clear hfz52_0
                        try clear hfz52_1
                        try clear hfz52_2
                        try clear hfz55_0
                        try clear hfz55_1
                        try clear hfz55_2
                        try clear hfz70_0
                        try clear hfz70_1
                        try clear hfz70_2
                        try clear hfz78_0
                        try clear hfz78_1
                        try clear hfz78_2
                        try clear hfz7_0
                        try clear hfz7_1
                        try clear hfz7_2
                        try clear hfz81_0
                        try clear hfz81_1
                        try clear hfz81_2
                        try clear hfz86_0
                        try clear hfz86_1
                        try clear hfz86_2
                        try clear hfz89_0
                        try clear hfz89_1
                        try clear hfz89_2
                        try clear p2
                        obtain ⟨kq, x97_97, rfl, HA, HJ97, HO_254001, HO_260001, HO_267001, HO_292001, BK240, BK253, BK259, BK266, BK291, HB⟩ := hcut
                        have hl267001_97 := (Kd.R_reads' HO_267001.out).1
                        rw [hl267001_97] at HO_267001
                        (try simp only [hl267001_97])
                        (try simp only [hl267001_97] at BK240)
                        (try simp only [hl267001_97] at BK253)
                        (try simp only [hl267001_97] at BK259)
                        (try simp only [hl267001_97] at BK266)
                        (try simp only [hl267001_97] at BK291)
                        (try simp only [hl267001_97] at HO_254001)
                        (try simp only [hl267001_97] at HO_260001)
                        (try simp only [hl267001_97] at HO_292001)
                        cases kq with
                        | zero => exact absurd HA.out (by simp [laws_FnExactFixVar.j2])
                        | succ kj97 =>
                          have H := HA.out
                          clear HA
                          simp only [laws_FnExactFixVar.j2] at H
                          by_cases c141 : x97_97 = true
                          · subst c141
                            have H1 : (some false) = some r := by rw [if_pos rfl] at H; exact H
                            clear H
                            have H := H1
                            clear H1
                            exact absurd (Option.some.inj H).symm (by rw [hr_.out]; simp)
                          · replace c141 := Bool.eq_false_iff.mpr c141
                            subst c141
                            have H1 : ((laws_heldDiagram.f kj97 t260 t278 t264 1).bind fun t293 => (if t293 < 0 then (some false) else (if t293 = t277 then (some true) else (some false)))) = some r := by rw [if_neg (show ¬ (false = true) by decide)] at H; exact H
                            clear H
                            have H := H1
                            clear H1
                            replace H := Option.bind_eq_some_iff.mp H
                            obtain ⟨t293, A1420, H⟩ := H
                            replace H : (if t293 < 0 then (some false) else (if t293 = t277 then (some true) else (some false))) = some r := H
                            have A142 := Aside0.mk A1420
                            clear A1420
                            by_cases c143 : t293 < 0
                            · rw [if_pos c143] at H
                              have c143b0 : decide (t293 < 0) = true := decide_eq_true c143
                              clear c143
                              exact absurd (Option.some.inj H).symm (by rw [hr_.out]; simp)
                            · rw [if_neg c143] at H
                              have c143b0 : decide (t293 < 0) = false := decide_eq_false c143
                              clear c143
                              by_cases c144 : t293 = t277
                              · rw [if_pos c144] at H
                                have c144b0 : (t293 == t277) = true := beq_iff_eq.mpr c144
                                have c144b1 : (t293 != t277) = false := bne_eq_false_iff_eq.mpr c144
                                clear c144
                                obtain rfl := Option.some.inj H
                                have hnb145 := NB266_240.out
                                have hnc145 := NB240_266.out
                                have hnb146 := NB266_253.out
                                have hnc146 := NB253_266.out
                                have hnb147 := NB266_259.out
                                have hnc147 := NB259_266.out
                                have hnb148 := NB266_291.out
                                have hnc148 := NB291_266.out
                                have hcz149_0 := cq_ BK266.out 0 (.int .i64 t260)
                                have hcz149_1 := cq_ BK266.out 1 (.slice Ao38 t278.length co38)
                                have hcz149_2 := cq_ BK266.out 2 (.int .i64 t264)
                                have hfz149_0 := blk_frozen BK266.out 0
                                have hfz149_1 := blk_frozen BK266.out 1
                                have hfz149_2 := blk_frozen BK266.out 2
                                go_wp2_with (first | ((with_reducible refine gate_callee (f := 28) rfl ?_); refine goesL_ (some 100) rfl rfl Try.func28 (by kernel_rfl) rfl #[.agg #[.int .i64 t260, .slice Ao38 t278.length co38, .int .i64 t264], .int .i64 1] rfl (by (try simp only [List.map_toArray, List.map_cons, List.map_nil]); first | done | rfl | (simp only [List.length_drop, List.length_take]; rfl)) ?_; (with_reducible refine (laws_heldDiagram.calls kj97 t260 _ _ t278 t264 1 t293 _ ?side1 ?side2 A142.out).mono ?_); (case side1 => repeat (first | exact (Kd.R_reads' HO_267001.out).2.2 | (with_reducible refine Kd.C_alloc ?_ _) | (with_reducible refine Kd.C_drewN ?_ _) | (with_reducible refine Kd.C_drew ?_))); (case side2 => exact (Kd.R_reads' HO_267001.out).2.1); rintro e w150 ⟨rfl, hb⟩; refine ⟨_, rfl, ?_⟩; have n0_ := Aside0.mk (Kd.R_below (rq_ HO_254001.out) hb); have n1_ := Aside0.mk (Kd.R_below (rq_ HO_260001.out) hb); have n2_ := Aside0.mk (Kd.R_below (rq_ HO_267001.out) hb); have n3_ := Aside0.mk (Kd.R_below (rq_ HO_292001.out) hb); have n4_ := Aside0.mk (blk_below (bk_ BK240.out) hb); have n5_ := Aside0.mk (blk_below (bk_ BK253.out) hb); have n6_ := Aside0.mk (blk_below (bk_ BK259.out) hb); have n7_ := Aside0.mk (blk_below (bk_ BK266.out) hb); have n8_ := Aside0.mk (blk_below (bk_ BK291.out) hb); have n9_ := Aside0.mk (below_step (bq_) hb); clear HO_254001; clear HO_260001; clear HO_267001; clear HO_292001; clear BK240; clear BK253; clear BK259; clear BK266; clear BK291; clear HB; have HO_254001 := n0_; have HO_260001 := n1_; have HO_267001 := n2_; have HO_292001 := n3_; have BK240 := n4_; have BK253 := n5_; have BK259 := n6_; have BK266 := n7_; have BK291 := n8_; have HB := n9_; clear n0_ n1_ n2_ n3_ n4_ n5_ n6_ n7_ n8_ n9_; (try clear hb); (try clear hb2); (try clear hk); (try clear hi)))
                                go_ret
                                exact ⟨by first | rfl | (simp [errW_none, errW_some] <;> rfl) | (simp [*, errW_none, errW_some] <;> rfl), bq_⟩
                              · rw [if_neg c144] at H
                                have c144b0 : (t293 == t277) = false := beq_eq_false_iff_ne.mpr c144
                                have c144b1 : (t293 != t277) = true := bne_iff_ne.mpr c144
                                exact absurd (Option.some.inj H).symm (by rw [hr_.out]; simp)
                    · rw [if_neg c95] at H
                      have c95b0 : (t279 == t277) = false := beq_eq_false_iff_ne.mpr c95
                      have c95b1 : (t279 != t277) = true := bne_iff_ne.mpr c95
                      exact absurd (Option.some.inj H).symm (by rw [hr_.out]; simp)
          · replace c60 := Bool.eq_false_iff.mpr c60
            subst c60
            have H1 : (some false) = some r := by rw [if_neg (show ¬ (false = true) by decide)] at H; exact H
            clear H
            have H := H1
            clear H1
            exact absurd (Option.some.inj H).symm (by rw [hr_.out]; simp)

/-- The one pure statement of laws_FnExactFixVar. -/
def laws_FnExactFixVar.Pure : Prop := ∀ (a0_0 : Int) (l0_1 : List (S101)) (a0_2 : Int) (a1 : Int) (a2 : Bool), ((Lit.int .i64 a0_0).wf = true) → (l0_1.length ≤ maxLen ∧ ∀ y0_ ∈ l0_1, ((Lit.int .i64 y0_.f0).wf = true) ∧ ((Lit.int .i64 y0_.f1).wf = true) ∧ ((Lit.int .i64 y0_.f2).wf = true)) → ((Lit.int .i64 a0_2).wf = true) → ((Lit.int .i64 a1).wf = true) → ∃ k, laws_FnExactFixVar.f k a0_0 l0_1 a0_2 a1 a2 = some true
theorem laws_FnExactFixVar.walk (P : laws_FnExactFixVar.Pure) (w : World) (a0_0 : Int) (hg0_0 : (Lit.int .i64 a0_0).wf = true) (A0_1 : Option Addr) (c0_1 : Nat) (l0_1 : List (S101)) (hr0_1 : Kd.C k101 w A0_1 l0_1.length l0_1) (hc0_1 : l0_1.length ≤ c0_1) (hg0_1 : l0_1.length ≤ maxLen ∧ ∀ y0_ ∈ l0_1, ((Lit.int .i64 y0_.f0).wf = true) ∧ ((Lit.int .i64 y0_.f1).wf = true) ∧ ((Lit.int .i64 y0_.f2).wf = true)) (a0_2 : Int) (hg0_2 : (Lit.int .i64 a0_2).wf = true) (a1 : Int) (hg1 : (Lit.int .i64 a1).wf = true) (a2 : Bool) :
    Calls Try.prog 8 #[.agg #[.int .i64 a0_0, .slice A0_1 l0_1.length c0_1, .int .i64 a0_2], .int .i64 a1, .bool a2] w fun e w' => e = .returned (.bool true) ∧ Below w.heap.size w w' := by
  obtain ⟨k, h⟩ := P a0_0 l0_1 a0_2 a1 a2 hg0_0 hg0_1 hg0_2 hg1
  refine (laws_FnExactFixVar.calls k a0_0 A0_1 c0_1 l0_1 a0_2 a1 a2 true w hr0_1 hc0_1 ⟨rfl⟩ h).mono ?_
  rintro e w' ⟨rfl, hd⟩
  exact ⟨rfl, hd⟩

end Go.Proofs.Ytpndhlcbfobelaa.PSF
