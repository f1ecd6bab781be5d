-- Made by myprint.py (this session's program, over the kit's print) for this claim. Lean checks it.
import Derived.Test.YtpndhlcbfobelaaPSNx0
import Derived.Test.YtpndhlcbfobelaaPSNx2
import Derived.Test.YtpndhlcbfobelaaPSNx3
import Derived.Test.YtpndhlcbfobelaaPSNx6
import Derived.Test.YtpndhlcbfobelaaPSNx10
namespace Go.Proofs.Ytpndhlcbfobelaa.PSN
open Go.RowKit Go.Proofs.YtpndhlcbfobelaaW.PrintWords Go.Proofs.YtpndhlcbfobelaaW.PrintLast Go.Proofs.YtpndhlcbfobelaaW.PrintMore
attribute [local go_sem] max2_int min2_int max_two min_two max_three min_three max_four min_four   -- for this text's walks alone
set_option linter.unusedVariables false
set_option linter.unusedSimpArgs false

/-! ### laws_FnExactNotOf: function 6 -/
mutual
def laws_FnExactNotOf.j0 : Nat → Bool → Bool → Bool → Int → List (S101) → Int → Int → List (S75) → Int → Int → List (S75) → Int → Int → List (S75) → Int → Option (Bool)
  | 0, _, _, _, _, _, _, _, _, _, _, _, _, _, _, _ => none
  | k + 1, x5, x8, x40, x234000, x234001, x234002, x247000, x247001, x247002, x253000, x253001, x253002, x260000, x260001, x260002 => if x40 = true then (some false) else ((laws_toDiagram.f k x234000 x234001 x234002).bind fun bt261 => ((laws_eqDiagram.f k x253000 x253001 x253002 bt261.1 bt261.2.1 bt261.2.2).bind fun t266 => (if t266 = true then ((laws_markDiagram.f k x253000 x253001 x253002 1).bind fun bt267 => (if bt267.1 < 0 then (laws_FnExactNotOf.j1 k x5 true x234000 x234001 x234002 x247000 x247001 x247002 x260000 x260001 x260002) else ((laws_eqDiagram.f k x260000 x260001 x260002 x247000 x247001 x247002).bind fun t269 => (if t269 = true then (laws_FnExactNotOf.j1 k x5 (x8 != x5) x234000 x234001 x234002 x247000 x247001 x247002 x260000 x260001 x260002) else (laws_FnExactNotOf.j1 k x5 true x234000 x234001 x234002 x247000 x247001 x247002 x260000 x260001 x260002))))) else (some false))))
def laws_FnExactNotOf.j1 : Nat → Bool → Bool → Int → List (S101) → Int → Int → List (S75) → Int → Int → List (S75) → Int → Option (Bool)
  | 0, _, _, _, _, _, _, _, _, _, _, _ => none
  | k + 1, x5, x61, x234000, x234001, x234002, x247000, x247001, x247002, x260000, x260001, x260002 => if x61 = true then (some false) else ((laws_markDiagram.f k x260000 x260001 x260002 1).bind fun bt270 => ((laws_heldDiagram.f k x260000 bt270.2 x260002 1).bind fun t272 => (if t272 < 0 then (some false) else (if t272 = bt270.1 then ((laws_toDiagram.f k x234000 x234001 x234002).bind fun bt273 => ((impl_NotOf.f k bt273.1 bt273.2.1 bt273.2.2).bind fun bt278 => ((laws_eqDiagram.f k bt278.1 bt278.2.1 bt278.2.2.1 x247000 x247001 x247002).bind fun t285 => (if t285 = true then (laws_FnExactNotOf.j2 k bt270.1 (bt278.2.2.2 != x5) x260000 bt270.2 x260002) else (laws_FnExactNotOf.j2 k bt270.1 true x260000 bt270.2 x260002))))) else (some false)))))
def laws_FnExactNotOf.j2 : Nat → Int → Bool → Int → List (S75) → Int → Option (Bool)
  | 0, _, _, _, _, _ => none
  | k + 1, x10, x87, x260000, x260001, x260002 => if x87 = true then (some false) else ((laws_heldDiagram.f k x260000 x260001 x260002 1).bind fun t286 => (if t286 < 0 then (some false) else (if t286 = x10 then (some true) else (some false))))
end
def laws_FnExactNotOf.f (k : Nat) (a0_0 : Int) (l0_1 : List (S101)) (a0_2 : Int) : Option (Bool) := (laws_szDiagram.f a0_0 l0_1 a0_2 1048576).bind fun t234 => (if t234 < 0 then (some true) else ((laws_toDiagram.f k a0_0 l0_1 a0_2).bind fun bt235 => ((spec_NotOf.f k bt235.1 bt235.2.1 bt235.2.2).bind fun bt240 => ((laws_toDiagram.f k a0_0 l0_1 a0_2).bind fun bt247 => ((impl_NotOf.f k bt247.1 bt247.2.1 bt247.2.2).bind fun bt253 => ((laws_eqDiagram.f k bt253.1 bt253.2.1 bt253.2.2.1 bt240.1 bt240.2.1 bt240.2.2.1).bind fun t260 => (if t260 = true then (laws_FnExactNotOf.j0 k bt240.2.2.2 bt253.2.2.2 (bt253.2.2.2 != bt240.2.2.2) a0_0 l0_1 a0_2 bt240.1 bt240.2.1 bt240.2.2.1 bt247.1 bt247.2.1 bt247.2.2 bt253.1 bt253.2.1 bt253.2.2.1) else (laws_FnExactNotOf.j0 k bt240.2.2.2 bt253.2.2.2 true a0_0 l0_1 a0_2 bt240.1 bt240.2.1 bt240.2.2.1 bt247.1 bt247.2.1 bt247.2.2 bt253.1 bt253.2.1 bt253.2.2.1))))))))
theorem laws_FnExactNotOf.mono_l : ∀ k, (∀ y0 y1 y2 y3 y4 y5 y6 y7 y8 y9 y10 y11 y12 y13 y14, LeO (laws_FnExactNotOf.j0 k y0 y1 y2 y3 y4 y5 y6 y7 y8 y9 y10 y11 y12 y13 y14) (laws_FnExactNotOf.j0 (k + 1) y0 y1 y2 y3 y4 y5 y6 y7 y8 y9 y10 y11 y12 y13 y14)) ∧ (∀ y0 y1 y2 y3 y4 y5 y6 y7 y8 y9 y10, LeO (laws_FnExactNotOf.j1 k y0 y1 y2 y3 y4 y5 y6 y7 y8 y9 y10) (laws_FnExactNotOf.j1 (k + 1) y0 y1 y2 y3 y4 y5 y6 y7 y8 y9 y10)) ∧ (∀ y0 y1 y2 y3 y4, LeO (laws_FnExactNotOf.j2 k y0 y1 y2 y3 y4) (laws_FnExactNotOf.j2 (k + 1) y0 y1 y2 y3 y4))
  | 0 => ⟨fun _ _ _ _ _ _ _ _ _ _ _ _ _ _ _ r h => by simp [laws_FnExactNotOf.j0] at h, fun _ _ _ _ _ _ _ _ _ _ _ r h => by simp [laws_FnExactNotOf.j1] at h, fun _ _ _ _ _ r h => by simp [laws_FnExactNotOf.j2] at h⟩
  | k + 1 => by
    obtain ⟨ih0, ih1, ih2⟩ := laws_FnExactNotOf.mono_l k
    refine ⟨?_, ?_, ?_⟩
    · intro y0 y1 y2 y3 y4 y5 y6 y7 y8 y9 y10 y11 y12 y13 y14
      unfold laws_FnExactNotOf.j0
      repeat' first
      | (with_reducible exact ih0 _ _ _ _ _ _ _ _ _ _ _ _ _ _ _)
      | (with_reducible exact ih1 _ _ _ _ _ _ _ _ _ _ _)
      | (with_reducible exact ih2 _ _ _ _ _)
      | (with_reducible exact impl_NotOf.mono _ _ _ _)
      | (with_reducible exact laws_eqDiagram.mono _ _ _ _ _ _ _)
      | (with_reducible exact laws_heldDiagram.mono _ _ _ _ _)
      | (with_reducible exact laws_markDiagram.mono _ _ _ _ _)
      | (with_reducible exact laws_toDiagram.mono _ _ _ _)
      | (with_reducible exact spec_NotOf.mono _ _ _ _)
      | (with_reducible exact LeO.refl _)
      | (with_reducible exact LeO.none _)
      | (with_reducible refine LeO.ite ?_ ?_)
      | (with_reducible refine LeO.bind ?_ (fun _ => ?_))
      | exact ih0 _ _ _ _ _ _ _ _ _ _ _ _ _ _ _
      | exact ih1 _ _ _ _ _ _ _ _ _ _ _
      | exact ih2 _ _ _ _ _
      | exact impl_NotOf.mono _ _ _ _
      | exact laws_eqDiagram.mono _ _ _ _ _ _ _
      | exact laws_heldDiagram.mono _ _ _ _ _
      | exact laws_markDiagram.mono _ _ _ _ _
      | exact laws_toDiagram.mono _ _ _ _
      | exact spec_NotOf.mono _ _ _ _
      | exact LeO.none _
      | refine LeO.ite ?_ ?_
      | refine LeO.bind ?_ (fun _ => ?_)
    · intro y0 y1 y2 y3 y4 y5 y6 y7 y8 y9 y10
      unfold laws_FnExactNotOf.j1
      repeat' first
      | (with_reducible exact ih0 _ _ _ _ _ _ _ _ _ _ _ _ _ _ _)
      | (with_reducible exact ih1 _ _ _ _ _ _ _ _ _ _ _)
      | (with_reducible exact ih2 _ _ _ _ _)
      | (with_reducible exact impl_NotOf.mono _ _ _ _)
      | (with_reducible exact laws_eqDiagram.mono _ _ _ _ _ _ _)
      | (with_reducible exact laws_heldDiagram.mono _ _ _ _ _)
      | (with_reducible exact laws_markDiagram.mono _ _ _ _ _)
      | (with_reducible exact laws_toDiagram.mono _ _ _ _)
      | (with_reducible exact spec_NotOf.mono _ _ _ _)
      | (with_reducible exact LeO.refl _)
      | (with_reducible exact LeO.none _)
      | (with_reducible refine LeO.ite ?_ ?_)
      | (with_reducible refine LeO.bind ?_ (fun _ => ?_))
      | exact ih0 _ _ _ _ _ _ _ _ _ _ _ _ _ _ _
      | exact ih1 _ _ _ _ _ _ _ _ _ _ _
      | exact ih2 _ _ _ _ _
      | exact impl_NotOf.mono _ _ _ _
      | exact laws_eqDiagram.mono _ _ _ _ _ _ _
      | exact laws_heldDiagram.mono _ _ _ _ _
      | exact laws_markDiagram.mono _ _ _ _ _
      | exact laws_toDiagram.mono _ _ _ _
      | exact spec_NotOf.mono _ _ _ _
      | exact LeO.none _
      | refine LeO.ite ?_ ?_
      | refine LeO.bind ?_ (fun _ => ?_)
    · intro y0 y1 y2 y3 y4
      unfold laws_FnExactNotOf.j2
      repeat' first
      | (with_reducible exact ih0 _ _ _ _ _ _ _ _ _ _ _ _ _ _ _)
      | (with_reducible exact ih1 _ _ _ _ _ _ _ _ _ _ _)
      | (with_reducible exact ih2 _ _ _ _ _)
      | (with_reducible exact impl_NotOf.mono _ _ _ _)
      | (with_reducible exact laws_eqDiagram.mono _ _ _ _ _ _ _)
      | (with_reducible exact laws_heldDiagram.mono _ _ _ _ _)
      | (with_reducible exact laws_markDiagram.mono _ _ _ _ _)
      | (with_reducible exact laws_toDiagram.mono _ _ _ _)
      | (with_reducible exact spec_NotOf.mono _ _ _ _)
      | (with_reducible exact LeO.refl _)
      | (with_reducible exact LeO.none _)
      | (with_reducible refine LeO.ite ?_ ?_)
      | (with_reducible refine LeO.bind ?_ (fun _ => ?_))
      | exact ih0 _ _ _ _ _ _ _ _ _ _ _ _ _ _ _
      | exact ih1 _ _ _ _ _ _ _ _ _ _ _
      | exact ih2 _ _ _ _ _
      | exact impl_NotOf.mono _ _ _ _
      | exact laws_eqDiagram.mono _ _ _ _ _ _ _
      | exact laws_heldDiagram.mono _ _ _ _ _
      | exact laws_markDiagram.mono _ _ _ _ _
      | exact laws_toDiagram.mono _ _ _ _
      | exact spec_NotOf.mono _ _ _ _
      | exact LeO.none _
      | refine LeO.ite ?_ ?_
      | refine LeO.bind ?_ (fun _ => ?_)
theorem laws_FnExactNotOf.mono : ∀ a0 a1 a2 k, LeO (laws_FnExactNotOf.f k a0 a1 a2) (laws_FnExactNotOf.f (k + 1) a0 a1 a2) := by
  intro a0 a1 a2 k
  obtain ⟨ih0, ih1, ih2⟩ := laws_FnExactNotOf.mono_l k
  unfold laws_FnExactNotOf.f
  repeat' first
      | (with_reducible exact ih0 _ _ _ _ _ _ _ _ _ _ _ _ _ _ _)
      | (with_reducible exact ih1 _ _ _ _ _ _ _ _ _ _ _)
      | (with_reducible exact ih2 _ _ _ _ _)
      | (with_reducible exact impl_NotOf.mono _ _ _ _)
      | (with_reducible exact laws_eqDiagram.mono _ _ _ _ _ _ _)
      | (with_reducible exact laws_heldDiagram.mono _ _ _ _ _)
      | (with_reducible exact laws_markDiagram.mono _ _ _ _ _)
      | (with_reducible exact laws_toDiagram.mono _ _ _ _)
      | (with_reducible exact spec_NotOf.mono _ _ _ _)
      | (with_reducible exact LeO.refl _)
      | (with_reducible exact LeO.none _)
      | (with_reducible refine LeO.ite ?_ ?_)
      | (with_reducible refine LeO.bind ?_ (fun _ => ?_))
      | exact ih0 _ _ _ _ _ _ _ _ _ _ _ _ _ _ _
      | exact ih1 _ _ _ _ _ _ _ _ _ _ _
      | exact ih2 _ _ _ _ _
      | exact impl_NotOf.mono _ _ _ _
      | exact laws_eqDiagram.mono _ _ _ _ _ _ _
      | exact laws_heldDiagram.mono _ _ _ _ _
      | exact laws_markDiagram.mono _ _ _ _ _
      | exact laws_toDiagram.mono _ _ _ _
      | exact spec_NotOf.mono _ _ _ _
      | exact LeO.none _
      | refine LeO.ite ?_ ?_
      | refine LeO.bind ?_ (fun _ => ?_)
set_option maxHeartbeats 8000000 in
set_option maxRecDepth 100000 in
theorem laws_FnExactNotOf.calls (k : Nat) (a0_0 : Int) (A0_1 : Option Addr) (c0_1 : Nat) (l0_1 : List (S101)) (a0_2 : Int) (r : Bool) (w : World) (hr0_1 : Kd.C k101 w A0_1 l0_1.length l0_1) (hc0_1 : l0_1.length ≤ c0_1) (hr_ : Aside0 (r = true)) (h : laws_FnExactNotOf.f k a0_0 l0_1 a0_2 = some r) :
    Calls Try.prog 6 #[.agg #[.int .i64 a0_0, .slice A0_1 l0_1.length c0_1, .int .i64 a0_2]] w fun e w' => e = .returned (.bool r) ∧ Below w.heap.size w w' := by
  have hu24 := Try.underlying24
  have hu30 := Try.underlying30
  have HR0_1 := Aside0.mk hr0_1
  have HC0_1 := Aside0.mk hc0_1
  clear hr0_1 hc0_1
  have HB := Aside0.mk (Below.refl w.heap.size w)
  have H : ((laws_szDiagram.f a0_0 l0_1 a0_2 1048576).bind fun t234 => (if t234 < 0 then (some true) else ((laws_toDiagram.f k a0_0 l0_1 a0_2).bind fun bt235 => ((spec_NotOf.f k bt235.1 bt235.2.1 bt235.2.2).bind fun bt240 => ((laws_toDiagram.f k a0_0 l0_1 a0_2).bind fun bt247 => ((impl_NotOf.f k bt247.1 bt247.2.1 bt247.2.2).bind fun bt253 => ((laws_eqDiagram.f k bt253.1 bt253.2.1 bt253.2.2.1 bt240.1 bt240.2.1 bt240.2.2.1).bind fun t260 => (if t260 = true then (laws_FnExactNotOf.j0 k bt240.2.2.2 bt253.2.2.2 (bt253.2.2.2 != bt240.2.2.2) a0_0 l0_1 a0_2 bt240.1 bt240.2.1 bt240.2.2.1 bt247.1 bt247.2.1 bt247.2.2 bt253.1 bt253.2.1 bt253.2.2.1) else (laws_FnExactNotOf.j0 k bt240.2.2.2 bt253.2.2.2 true a0_0 l0_1 a0_2 bt240.1 bt240.2.1 bt240.2.2.1 bt247.1 bt247.2.1 bt247.2.2 bt253.1 bt253.2.1 bt253.2.2.1))))))))) = some r := h
  clear h
  replace H := Option.bind_eq_some_iff.mp H
  obtain ⟨t234, A20, H⟩ := H
  replace H : (if t234 < 0 then (some true) else ((laws_toDiagram.f k a0_0 l0_1 a0_2).bind fun bt235 => ((spec_NotOf.f k bt235.1 bt235.2.1 bt235.2.2).bind fun bt240 => ((laws_toDiagram.f k a0_0 l0_1 a0_2).bind fun bt247 => ((impl_NotOf.f k bt247.1 bt247.2.1 bt247.2.2).bind fun bt253 => ((laws_eqDiagram.f k bt253.1 bt253.2.1 bt253.2.2.1 bt240.1 bt240.2.1 bt240.2.2.1).bind fun t260 => (if t260 = true then (laws_FnExactNotOf.j0 k bt240.2.2.2 bt253.2.2.2 (bt253.2.2.2 != bt240.2.2.2) a0_0 l0_1 a0_2 bt240.1 bt240.2.1 bt240.2.2.1 bt247.1 bt247.2.1 bt247.2.2 bt253.1 bt253.2.1 bt253.2.2.1) else (laws_FnExactNotOf.j0 k bt240.2.2.2 bt253.2.2.2 true a0_0 l0_1 a0_2 bt240.1 bt240.2.1 bt240.2.2.1 bt247.1 bt247.2.1 bt247.2.2 bt253.1 bt253.2.1 bt253.2.2.1)))))))) = some r := H
  have A2 := Aside0.mk A20
  clear A20
  by_cases c3 : t234 < 0
  · rw [if_pos c3] at H
    have c3b0 : decide (t234 < 0) = true := decide_eq_true c3
    clear c3
    obtain rfl := Option.some.inj H
    go_enter Try.func6, Try.ntmps6
    go_wp2_with (first | ((with_reducible refine gate_dst (N := 1) rfl ?_); refine boxq_ (N := 1) (cs := #[.int .i64 a0_0, .slice A0_1 l0_1.length c0_1, .int .i64 a0_2]) (t := 24) ?_; intro gb233 hg w4 hbox hb; have n0_ := Aside0.mk (below_step (bq_) hb); have n1_ := Aside0.mk (hbox); have n2_ := Aside0.mk ((by rw [hg]; exact (below_size (bq_)) : w.heap.size ≤ gb233)); have n3_ := Aside0.mk ((by rw [hg]; exact (below_size (bq_)) : w.heap.size ≤ gb233)); clear HB; have HB := n0_; have BK233 := n1_; have GW233 := n2_; have GE233 := n3_; clear n0_ n1_ n2_ n3_; clear hb hbox hg; have hcz5_0 := cq_ BK233.out 0 (.int .i64 a0_0); have hcz5_1 := cq_ BK233.out 1 (.slice A0_1 l0_1.length c0_1); have hcz5_2 := cq_ BK233.out 2 (.int .i64 a0_2); have hfz5_0 := blk_frozen BK233.out 0; have hfz5_1 := blk_frozen BK233.out 1; have hfz5_2 := blk_frozen BK233.out 2) | ((with_reducible refine gate_callee (f := 12) rfl ?_); refine goesL_ (some 16) rfl rfl Try.func12 (by kernel_rfl) rfl #[.agg #[.int .i64 a0_0, .slice A0_1 l0_1.length c0_1, .int .i64 a0_2], .int .i64 1048576] rfl (by (try simp only [List.map_toArray, List.map_cons, List.map_nil]); first | done | rfl | (simp only [List.length_drop, List.length_take]; rfl)) ?_; (with_reducible refine (laws_szDiagram.calls a0_0 _ _ l0_1 a0_2 1048576 t234 _ ?side1 ?side2 A2.out).mono ?_); (case side1 => repeat (first | exact (Kd.C_below HR0_1.out HB.out) | (with_reducible refine Kd.C_alloc ?_ _) | (with_reducible refine Kd.C_drewN ?_ _) | (with_reducible refine Kd.C_drew ?_))); (case side2 => exact HC0_1.out); rintro e w6 ⟨rfl, hb⟩; refine ⟨_, rfl, ?_⟩; have n0_ := Aside0.mk (blk_below (bk_ BK233.out) hb); have n1_ := Aside0.mk (below_step (bq_) hb); clear BK233; clear HB; have BK233 := n0_; have HB := n1_; clear n0_ n1_; (try clear hb); (try clear hb2); (try clear hk); (try clear hi)))
    go_ret
    exact ⟨by first | rfl | (simp [errW_none, errW_some] <;> rfl) | (simp [*, errW_none, errW_some] <;> rfl), bq_⟩
  · rw [if_neg c3] at H
    have c3b0 : decide (t234 < 0) = false := decide_eq_false c3
    clear c3
    replace H := Option.bind_eq_some_iff.mp H
    obtain ⟨⟨t235, t236, t239⟩, A70, H⟩ := H
    replace H : ((spec_NotOf.f k t235 t236 t239).bind fun bt240 => ((laws_toDiagram.f k a0_0 l0_1 a0_2).bind fun bt247 => ((impl_NotOf.f k bt247.1 bt247.2.1 bt247.2.2).bind fun bt253 => ((laws_eqDiagram.f k bt253.1 bt253.2.1 bt253.2.2.1 bt240.1 bt240.2.1 bt240.2.2.1).bind fun t260 => (if t260 = true then (laws_FnExactNotOf.j0 k bt240.2.2.2 bt253.2.2.2 (bt253.2.2.2 != bt240.2.2.2) a0_0 l0_1 a0_2 bt240.1 bt240.2.1 bt240.2.2.1 bt247.1 bt247.2.1 bt247.2.2 bt253.1 bt253.2.1 bt253.2.2.1) else (laws_FnExactNotOf.j0 k bt240.2.2.2 bt253.2.2.2 true a0_0 l0_1 a0_2 bt240.1 bt240.2.1 bt240.2.2.1 bt247.1 bt247.2.1 bt247.2.2 bt253.1 bt253.2.1 bt253.2.2.1)))))) = some r := H
    have A7 := Aside0.mk A70
    clear A70
    replace H := Option.bind_eq_some_iff.mp H
    obtain ⟨⟨t240, t241, t244, t245⟩, A80, H⟩ := H
    replace H : ((laws_toDiagram.f k a0_0 l0_1 a0_2).bind fun bt247 => ((impl_NotOf.f k bt247.1 bt247.2.1 bt247.2.2).bind fun bt253 => ((laws_eqDiagram.f k bt253.1 bt253.2.1 bt253.2.2.1 t240 t241 t244).bind fun t260 => (if t260 = true then (laws_FnExactNotOf.j0 k t245 bt253.2.2.2 (bt253.2.2.2 != t245) a0_0 l0_1 a0_2 t240 t241 t244 bt247.1 bt247.2.1 bt247.2.2 bt253.1 bt253.2.1 bt253.2.2.1) else (laws_FnExactNotOf.j0 k t245 bt253.2.2.2 true a0_0 l0_1 a0_2 t240 t241 t244 bt247.1 bt247.2.1 bt247.2.2 bt253.1 bt253.2.1 bt253.2.2.1))))) = some r := H
    have A8 := Aside0.mk A80
    clear A80
    replace H := Option.bind_eq_some_iff.mp H
    obtain ⟨⟨t247, t248, t251⟩, A90, H⟩ := H
    replace H : ((impl_NotOf.f k t247 t248 t251).bind fun bt253 => ((laws_eqDiagram.f k bt253.1 bt253.2.1 bt253.2.2.1 t240 t241 t244).bind fun t260 => (if t260 = true then (laws_FnExactNotOf.j0 k t245 bt253.2.2.2 (bt253.2.2.2 != t245) a0_0 l0_1 a0_2 t240 t241 t244 t247 t248 t251 bt253.1 bt253.2.1 bt253.2.2.1) else (laws_FnExactNotOf.j0 k t245 bt253.2.2.2 true a0_0 l0_1 a0_2 t240 t241 t244 t247 t248 t251 bt253.1 bt253.2.1 bt253.2.2.1)))) = some r := H
    have A9 := Aside0.mk A90
    clear A90
    replace H := Option.bind_eq_some_iff.mp H
    obtain ⟨⟨t253, t254, t257, t258⟩, A100, H⟩ := H
    replace H : ((laws_eqDiagram.f k t253 t254 t257 t240 t241 t244).bind fun t260 => (if t260 = true then (laws_FnExactNotOf.j0 k t245 t258 (t258 != t245) a0_0 l0_1 a0_2 t240 t241 t244 t247 t248 t251 t253 t254 t257) else (laws_FnExactNotOf.j0 k t245 t258 true a0_0 l0_1 a0_2 t240 t241 t244 t247 t248 t251 t253 t254 t257))) = some r := H
    have A10 := Aside0.mk A100
    clear A100
    have HC11 := Aside0.mk H
    clear H
    go_enter Try.func6, Try.ntmps6
    go_upto_region 8 with (first | ((with_reducible refine gate_dst (N := 1) rfl ?_); refine boxq_ (N := 1) (cs := #[.int .i64 a0_0, .slice A0_1 l0_1.length c0_1, .int .i64 a0_2]) (t := 24) ?_; intro gb233 hg w12 hbox hb; have n0_ := Aside0.mk (below_step (bq_) hb); have n1_ := Aside0.mk (hbox); have n2_ := Aside0.mk ((by rw [hg]; exact (below_size (bq_)) : w.heap.size ≤ gb233)); have n3_ := Aside0.mk ((by rw [hg]; exact (below_size (bq_)) : w.heap.size ≤ gb233)); clear HB; have HB := n0_; have BK233 := n1_; have GW233 := n2_; have GE233 := n3_; clear n0_ n1_ n2_ n3_; clear hb hbox hg; have hcz13_0 := cq_ BK233.out 0 (.int .i64 a0_0); have hcz13_1 := cq_ BK233.out 1 (.slice A0_1 l0_1.length c0_1); have hcz13_2 := cq_ BK233.out 2 (.int .i64 a0_2); have hfz13_0 := blk_frozen BK233.out 0; have hfz13_1 := blk_frozen BK233.out 1; have hfz13_2 := blk_frozen BK233.out 2) | ((with_reducible refine gate_callee (f := 12) rfl ?_); refine goesL_ (some 16) rfl rfl Try.func12 (by kernel_rfl) rfl #[.agg #[.int .i64 a0_0, .slice A0_1 l0_1.length c0_1, .int .i64 a0_2], .int .i64 1048576] rfl (by (try simp only [List.map_toArray, List.map_cons, List.map_nil]); first | done | rfl | (simp only [List.length_drop, List.length_take]; rfl)) ?_; (with_reducible refine (laws_szDiagram.calls a0_0 _ _ l0_1 a0_2 1048576 t234 _ ?side1 ?side2 A2.out).mono ?_); (case side1 => repeat (first | exact (Kd.C_below HR0_1.out HB.out) | (with_reducible refine Kd.C_alloc ?_ _) | (with_reducible refine Kd.C_drewN ?_ _) | (with_reducible refine Kd.C_drew ?_))); (case side2 => exact HC0_1.out); rintro e w14 ⟨rfl, hb⟩; refine ⟨_, rfl, ?_⟩; have n0_ := Aside0.mk (blk_below (bk_ BK233.out) hb); have n1_ := Aside0.mk (below_step (bq_) hb); clear BK233; clear HB; have BK233 := n0_; have HB := n1_; clear n0_ n1_; (try clear hb); (try clear hb2); (try clear hk); (try clear hi); have hcz15_0 := cq_ BK233.out 0 (.int .i64 a0_0); have hcz15_1 := cq_ BK233.out 1 (.slice A0_1 l0_1.length c0_1); have hcz15_2 := cq_ BK233.out 2 (.int .i64 a0_2); have hfz15_0 := blk_frozen BK233.out 0; have hfz15_1 := blk_frozen BK233.out 1; have hfz15_2 := blk_frozen BK233.out 2) | ((with_reducible refine gate_callee (f := 14) rfl ?_); refine goesL_ (some 21) rfl rfl Try.func14 (by kernel_rfl) rfl #[.agg #[.int .i64 a0_0, .slice A0_1 l0_1.length c0_1, .int .i64 a0_2]] rfl (by (try simp only [List.map_toArray, List.map_cons, List.map_nil]); first | done | rfl | (simp only [List.length_drop, List.length_take]; rfl)) ?_; (with_reducible refine (laws_toDiagram.calls k a0_0 _ _ l0_1 a0_2 t235 t236 t239 _ ?side1 ?side2 A7.out).mono ?_); (case side1 => repeat (first | exact (Kd.C_below HR0_1.out HB.out) | (with_reducible refine Kd.C_alloc ?_ _) | (with_reducible refine Kd.C_drewN ?_ _) | (with_reducible refine Kd.C_drew ?_))); (case side2 => exact HC0_1.out); rintro e w16 ⟨v237, rfl, ho0, hb⟩; refine ⟨_, rfl, ?_⟩; have n0_ := Aside0.mk (Kd.R_lower ho0 (below_size (bq_))); have n1_ := Aside0.mk (blk_below (bk_ BK233.out) hb); have n2_ := Aside0.mk (below_step (bq_) hb); clear BK233; clear HB; have HO238 := n0_; have BK233 := n1_; have HB := n2_; clear n0_ n1_ n2_; (try clear hb); (try clear hb2); (try clear hk); (try clear hi); (try clear ho0); obtain ⟨Ao17, co17, eo17⟩ := Kd.R_slice HO238.out; subst eo17) | ((with_reducible refine gate_callee (f := 26) rfl ?_); refine goesL_ (some 22) rfl rfl Try.func26 (by kernel_rfl) rfl #[.agg #[.int .i64 t235, .slice Ao17 t236.length co17, .int .i64 t239]] rfl (by (try simp only [List.map_toArray, List.map_cons, List.map_nil]); first | done | rfl | (simp only [List.length_drop, List.length_take]; rfl)) ?_; (with_reducible refine (spec_NotOf.calls k t235 _ _ t236 t239 t240 t241 t244 t245 _ ?side1 ?side2 A8.out).mono ?_); (case side1 => repeat (first | exact (Kd.R_reads' HO238.out).2.2 | (with_reducible refine Kd.C_alloc ?_ _) | (with_reducible refine Kd.C_drewN ?_ _) | (with_reducible refine Kd.C_drew ?_))); (case side2 => exact (Kd.R_reads' HO238.out).2.1); rintro e w18 ⟨v242, rfl, ho0, hb⟩; refine ⟨_, rfl, ?_⟩; have n0_ := Aside0.mk (Kd.R_elder' (rq_ HO238.out) (Kd.R_base ho0) hb); have n1_ := Aside0.mk (Kd.R_lower (Kd.R_new' ho0 (Kd.R_lt (rq_ HO238.out))) (below_size (bq_))); have n2_ := Aside0.mk (blk_below (bk_ BK233.out) hb); have n3_ := Aside0.mk (below_step (bq_) hb); clear HO238; clear BK233; clear HB; have HO238 := n0_; have HO243 := n1_; have BK233 := n2_; have HB := n3_; clear n0_ n1_ n2_ n3_; (try clear hb); (try clear hb2); (try clear hk); (try clear hi); (try clear ho0)) | ((with_reducible refine gate_dst (N := 4) rfl ?_); refine boxq_ (N := 4) (cs := #[.int .i64 0, .slice none 0 0, .int .i64 0]) (t := 30) ?_; intro gb246 hg w19 hbox hb; have n0_ := Aside0.mk (Kd.R_below (rq_ HO238.out) hb); have n1_ := Aside0.mk (Kd.R_below (rq_ HO243.out) hb); have n2_ := Aside0.mk (blk_below (bk_ BK233.out) hb); have n3_ := Aside0.mk (below_step (bq_) hb); have n4_ := Aside0.mk (hbox); have n5_ := Aside0.mk ((by rw [hg]; exact (below_size (bq_)) : w.heap.size ≤ gb246)); have n6_ := Aside0.mk ((by rw [hg]; exact (below_size (bq_)) : w.heap.size ≤ gb246)); have n7_ := Aside0.mk ((by rw [hg]; exact Nat.ne_of_lt (blk_lt (bk_ BK233.out)) : gb233 ≠ gb246)); have n8_ := Aside0.mk ((by rw [hg]; exact Nat.ne_of_gt (blk_lt (bk_ BK233.out)) : gb246 ≠ gb233)); clear HO238; clear HO243; clear BK233; clear HB; have HO238 := n0_; have HO243 := n1_; have BK233 := n2_; have HB := n3_; have BK246 := n4_; have GW246 := n5_; have GE246 := n6_; have NB233_246 := n7_; have NB246_233 := n8_; clear n0_ n1_ n2_ n3_ n4_ n5_ n6_ n7_ n8_; clear hb hbox hg; have hnb20 := NB246_233.out; have hnc20 := NB233_246.out; have hcz21_0 := cq_ BK246.out 0 (.int .i64 0); have hcz21_1 := cq_ BK246.out 1 (.slice none 0 0); have hcz21_2 := cq_ BK246.out 2 (.int .i64 0); have hfz21_0 := blk_frozen BK246.out 0; have hfz21_1 := blk_frozen BK246.out 1; have hfz21_2 := blk_frozen BK246.out 2; obtain ⟨Ao22, co22, eo22⟩ := Kd.R_slice HO243.out; subst eo22; have hcz23_0 := cq_ BK233.out 0 (.int .i64 a0_0); have hcz23_1 := cq_ BK233.out 1 (.slice A0_1 l0_1.length c0_1); have hcz23_2 := cq_ BK233.out 2 (.int .i64 a0_2); have hfz23_0 := blk_frozen BK233.out 0; have hfz23_1 := blk_frozen BK233.out 1; have hfz23_2 := blk_frozen BK233.out 2) | ((with_reducible refine gate_callee (f := 14) rfl ?_); refine goesL_ (some 26) rfl rfl Try.func14 (by kernel_rfl) rfl #[.agg #[.int .i64 a0_0, .slice A0_1 l0_1.length c0_1, .int .i64 a0_2]] rfl (by (try simp only [List.map_toArray, List.map_cons, List.map_nil]); first | done | rfl | (simp only [List.length_drop, List.length_take]; rfl)) ?_; (with_reducible refine (laws_toDiagram.calls k a0_0 _ _ l0_1 a0_2 t247 t248 t251 _ ?side1 ?side2 A9.out).mono ?_); (case side1 => exact Kd.C_below HR0_1.out (bq_)); (case side2 => exact HC0_1.out); rintro e w24 ⟨v249, rfl, ho0, hb⟩; refine ⟨_, rfl, ?_⟩; have n0_ := Aside0.mk (Kd.R_elder' (rq_ ((Kd.R_mono (Kd.R_far (p := ⟨gb246, 2, none⟩) (Kd.R_far (p := ⟨gb246, 1, none⟩) (Kd.R_far (p := ⟨gb246, 0, none⟩) (Kd.R_types HO238.out BK246.out (by decide)) (fun _ hk => hk.2) (.int .i64 t240)) (fun _ hk => hk.2) (.slice Ao22 t241.length co22)) (fun _ hk => hk.2) (.int .i64 t244)) (fun _ h_ => h_.1)))) (Kd.R_base ho0) hb); have n1_ := Aside0.mk (Kd.R_elder' (rq_ ((Kd.R_mono (Kd.R_far (p := ⟨gb246, 2, none⟩) (Kd.R_far (p := ⟨gb246, 1, none⟩) (Kd.R_far (p := ⟨gb246, 0, none⟩) (Kd.R_types HO243.out BK246.out (by decide)) (fun _ hk => hk.2) (.int .i64 t240)) (fun _ hk => hk.2) (.slice Ao22 t241.length co22)) (fun _ hk => hk.2) (.int .i64 t244)) (fun _ h_ => h_.1)))) (Kd.R_base ho0) hb); have n2_ := Aside0.mk (Kd.R_lower (Kd.R_new' (Kd.R_new' ho0 (Kd.R_lt (rq_ ((Kd.R_mono (Kd.R_far (p := ⟨gb246, 2, none⟩) (Kd.R_far (p := ⟨gb246, 1, none⟩) (Kd.R_far (p := ⟨gb246, 0, none⟩) (Kd.R_types HO238.out BK246.out (by decide)) (fun _ hk => hk.2) (.int .i64 t240)) (fun _ hk => hk.2) (.slice Ao22 t241.length co22)) (fun _ hk => hk.2) (.int .i64 t244)) (fun _ h_ => h_.1)))))) (Kd.R_lt (rq_ ((Kd.R_mono (Kd.R_far (p := ⟨gb246, 2, none⟩) (Kd.R_far (p := ⟨gb246, 1, none⟩) (Kd.R_far (p := ⟨gb246, 0, none⟩) (Kd.R_types HO243.out BK246.out (by decide)) (fun _ hk => hk.2) (.int .i64 t240)) (fun _ hk => hk.2) (.slice Ao22 t241.length co22)) (fun _ hk => hk.2) (.int .i64 t244)) (fun _ h_ => h_.1)))))) (below_size (bq_))); have n3_ := Aside0.mk (blk_below (g := gb233) (o := .cells #[.int .i64 a0_0, .slice A0_1 l0_1.length c0_1, .int .i64 a0_2] 24 (0, 0)) (by (with_reducible repeat (first | refine blk_drewN ?_ _ | refine blk_drew ?_ | refine blk_alloc ?_ _)); refine blk_far ?_ NB233_246.out _; (with_reducible repeat (first | refine blk_drewN ?_ _ | refine blk_drew ?_ | refine blk_alloc ?_ _)); refine blk_far ?_ NB233_246.out _; (with_reducible repeat (first | refine blk_drewN ?_ _ | refine blk_drew ?_ | refine blk_alloc ?_ _)); refine blk_far ?_ NB233_246.out _; (with_reducible repeat (first | refine blk_drewN ?_ _ | refine blk_drew ?_ | refine blk_alloc ?_ _)); exact BK233.out) hb); have n4_ := Aside0.mk (blk_below (g := gb246) (o := .cells #[.int .i64 t240, .slice Ao22 t241.length co22, .int .i64 t244] 30 (0, 0)) (by (with_reducible repeat (first | refine blk_drewN ?_ _ | refine blk_drew ?_ | refine blk_alloc ?_ _)); refine blk_put (cs := #[.int .i64 t240, .slice Ao22 t241.length co22, .int .i64 0]) ?_ 2 _ rfl; (with_reducible repeat (first | refine blk_drewN ?_ _ | refine blk_drew ?_ | refine blk_alloc ?_ _)); refine blk_put (cs := #[.int .i64 t240, .slice none 0 0, .int .i64 0]) ?_ 1 _ rfl; (with_reducible repeat (first | refine blk_drewN ?_ _ | refine blk_drew ?_ | refine blk_alloc ?_ _)); refine blk_put (cs := #[.int .i64 0, .slice none 0 0, .int .i64 0]) ?_ 0 _ rfl; (with_reducible repeat (first | refine blk_drewN ?_ _ | refine blk_drew ?_ | refine blk_alloc ?_ _)); exact BK246.out) hb); have n5_ := Aside0.mk (below_step (bq_) hb); clear HO238; clear HO243; clear BK233; clear BK246; clear HB; have HO238 := n0_; have HO243 := n1_; have HO250 := n2_; have BK233 := n3_; have BK246 := n4_; have HB := n5_; clear n0_ n1_ n2_ n3_ n4_ n5_; (try clear hb); (try clear hb2); (try clear hk); (try clear hi); (try clear ho0)) | ((with_reducible refine gate_dst (N := 6) rfl ?_); refine boxq_ (N := 6) (cs := #[.int .i64 0, .slice none 0 0, .int .i64 0]) (t := 30) ?_; intro gb252 hg w25 hbox hb; have n0_ := Aside0.mk (Kd.R_below (rq_ HO238.out) hb); have n1_ := Aside0.mk (Kd.R_below (rq_ HO243.out) hb); have n2_ := Aside0.mk (Kd.R_below (rq_ HO250.out) hb); have n3_ := Aside0.mk (blk_below (bk_ BK233.out) hb); have n4_ := Aside0.mk (blk_below (bk_ BK246.out) hb); have n5_ := Aside0.mk (below_step (bq_) hb); have n6_ := Aside0.mk (hbox); have n7_ := Aside0.mk ((by rw [hg]; exact (below_size (bq_)) : w.heap.size ≤ gb252)); have n8_ := Aside0.mk ((by rw [hg]; exact (below_size (bq_)) : w.heap.size ≤ gb252)); have n9_ := Aside0.mk ((by rw [hg]; exact Nat.ne_of_lt (blk_lt (bk_ BK233.out)) : gb233 ≠ gb252)); have n10_ := Aside0.mk ((by rw [hg]; exact Nat.ne_of_gt (blk_lt (bk_ BK233.out)) : gb252 ≠ gb233)); have n11_ := Aside0.mk ((by rw [hg]; exact Nat.ne_of_lt (blk_lt (bk_ BK246.out)) : gb246 ≠ gb252)); have n12_ := Aside0.mk ((by rw [hg]; exact Nat.ne_of_gt (blk_lt (bk_ BK246.out)) : gb252 ≠ gb246)); clear HO238; clear HO243; clear HO250; clear BK233; clear BK246; clear HB; have HO238 := n0_; have HO243 := n1_; have HO250 := n2_; have BK233 := n3_; have BK246 := n4_; have HB := n5_; have BK252 := n6_; have GW252 := n7_; have GE252 := n8_; have NB233_252 := n9_; have NB252_233 := n10_; have NB246_252 := n11_; have NB252_246 := n12_; clear n0_ n1_ n2_ n3_ n4_ n5_ n6_ n7_ n8_ n9_ n10_ n11_ n12_; clear hb hbox hg; have hnb26 := NB252_233.out; have hnc26 := NB233_252.out; have hnb27 := NB252_246.out; have hnc27 := NB246_252.out; have hcz28_0 := cq_ BK252.out 0 (.int .i64 0); have hcz28_1 := cq_ BK252.out 1 (.slice none 0 0); have hcz28_2 := cq_ BK252.out 2 (.int .i64 0); have hfz28_0 := blk_frozen BK252.out 0; have hfz28_1 := blk_frozen BK252.out 1; have hfz28_2 := blk_frozen BK252.out 2; obtain ⟨Ao29, co29, eo29⟩ := Kd.R_slice HO250.out; subst eo29) | ((with_reducible refine gate_callee (f := 27) rfl ?_); refine goesL_ (some 29) rfl rfl Try.func27 (by kernel_rfl) rfl #[.agg #[.int .i64 t247, .slice Ao29 t248.length co29, .int .i64 t251]] rfl (by (try simp only [List.map_toArray, List.map_cons, List.map_nil]); first | done | rfl | (simp only [List.length_drop, List.length_take]; rfl)) ?_; (with_reducible refine (impl_NotOf.calls k t247 _ _ t248 t251 t253 t254 t257 t258 _ ?side1 ?side2 A10.out).mono ?_); (case side1 => refine (Kd.R_reads' (e := 75) (base := w.heap.size) (ok := fun k_ => ((True ∧ some k_ ≠ (.slice Ao17 t236.length co17 : Value).ownBlock) ∧ some k_ ≠ (.slice Ao22 t241.length co22 : Value).ownBlock)) (n := t248.length) (c := co29) ?_).2.2; exact (rq_ ((Kd.R_mono (Kd.R_far (p := ⟨gb252, 2, none⟩) (Kd.R_far (p := ⟨gb252, 1, none⟩) (Kd.R_far (p := ⟨gb252, 0, none⟩) (Kd.R_types HO250.out BK252.out (by decide)) (fun _ hk => hk.2) (.int .i64 t247)) (fun _ hk => hk.2) (.slice Ao29 t248.length co29)) (fun _ hk => hk.2) (.int .i64 t251)) (fun _ h_ => h_.1))))); (case side2 => exact (Kd.R_reads' HO250.out).2.1); rintro e w30 ⟨v255, rfl, ho0, hb⟩; refine ⟨_, rfl, ?_⟩; have n0_ := Aside0.mk (Kd.R_elder' (rq_ ((Kd.R_mono (Kd.R_far (p := ⟨gb252, 2, none⟩) (Kd.R_far (p := ⟨gb252, 1, none⟩) (Kd.R_far (p := ⟨gb252, 0, none⟩) (Kd.R_types HO238.out BK252.out (by decide)) (fun _ hk => hk.2) (.int .i64 t247)) (fun _ hk => hk.2) (.slice Ao29 t248.length co29)) (fun _ hk => hk.2) (.int .i64 t251)) (fun _ h_ => h_.1)))) (Kd.R_base ho0) hb); have n1_ := Aside0.mk (Kd.R_elder' (rq_ ((Kd.R_mono (Kd.R_far (p := ⟨gb252, 2, none⟩) (Kd.R_far (p := ⟨gb252, 1, none⟩) (Kd.R_far (p := ⟨gb252, 0, none⟩) (Kd.R_types HO243.out BK252.out (by decide)) (fun _ hk => hk.2) (.int .i64 t247)) (fun _ hk => hk.2) (.slice Ao29 t248.length co29)) (fun _ hk => hk.2) (.int .i64 t251)) (fun _ h_ => h_.1)))) (Kd.R_base ho0) hb); have n2_ := Aside0.mk (Kd.R_elder' (rq_ ((Kd.R_mono (Kd.R_far (p := ⟨gb252, 2, none⟩) (Kd.R_far (p := ⟨gb252, 1, none⟩) (Kd.R_far (p := ⟨gb252, 0, none⟩) (Kd.R_types HO250.out BK252.out (by decide)) (fun _ hk => hk.2) (.int .i64 t247)) (fun _ hk => hk.2) (.slice Ao29 t248.length co29)) (fun _ hk => hk.2) (.int .i64 t251)) (fun _ h_ => h_.1)))) (Kd.R_base ho0) hb); have n3_ := Aside0.mk (Kd.R_lower (Kd.R_new' (Kd.R_new' (Kd.R_new' ho0 (Kd.R_lt (rq_ ((Kd.R_mono (Kd.R_far (p := ⟨gb252, 2, none⟩) (Kd.R_far (p := ⟨gb252, 1, none⟩) (Kd.R_far (p := ⟨gb252, 0, none⟩) (Kd.R_types HO238.out BK252.out (by decide)) (fun _ hk => hk.2) (.int .i64 t247)) (fun _ hk => hk.2) (.slice Ao29 t248.length co29)) (fun _ hk => hk.2) (.int .i64 t251)) (fun _ h_ => h_.1)))))) (Kd.R_lt (rq_ ((Kd.R_mono (Kd.R_far (p := ⟨gb252, 2, none⟩) (Kd.R_far (p := ⟨gb252, 1, none⟩) (Kd.R_far (p := ⟨gb252, 0, none⟩) (Kd.R_types HO243.out BK252.out (by decide)) (fun _ hk => hk.2) (.int .i64 t247)) (fun _ hk => hk.2) (.slice Ao29 t248.length co29)) (fun _ hk => hk.2) (.int .i64 t251)) (fun _ h_ => h_.1)))))) (Kd.R_lt (rq_ ((Kd.R_mono (Kd.R_far (p := ⟨gb252, 2, none⟩) (Kd.R_far (p := ⟨gb252, 1, none⟩) (Kd.R_far (p := ⟨gb252, 0, none⟩) (Kd.R_types HO250.out BK252.out (by decide)) (fun _ hk => hk.2) (.int .i64 t247)) (fun _ hk => hk.2) (.slice Ao29 t248.length co29)) (fun _ hk => hk.2) (.int .i64 t251)) (fun _ h_ => h_.1)))))) (below_size (bq_))); have n4_ := Aside0.mk (blk_below (g := gb233) (o := .cells #[.int .i64 a0_0, .slice A0_1 l0_1.length c0_1, .int .i64 a0_2] 24 (0, 0)) (by (with_reducible repeat (first | refine blk_drewN ?_ _ | refine blk_drew ?_ | refine blk_alloc ?_ _)); refine blk_far ?_ NB233_252.out _; (with_reducible repeat (first | refine blk_drewN ?_ _ | refine blk_drew ?_ | refine blk_alloc ?_ _)); refine blk_far ?_ NB233_252.out _; (with_reducible repeat (first | refine blk_drewN ?_ _ | refine blk_drew ?_ | refine blk_alloc ?_ _)); refine blk_far ?_ NB233_252.out _; (with_reducible repeat (first | refine blk_drewN ?_ _ | refine blk_drew ?_ | refine blk_alloc ?_ _)); exact BK233.out) hb); have n5_ := Aside0.mk (blk_below (g := gb246) (o := .cells #[.int .i64 t240, .slice Ao22 t241.length co22, .int .i64 t244] 30 (0, 0)) (by (with_reducible repeat (first | refine blk_drewN ?_ _ | refine blk_drew ?_ | refine blk_alloc ?_ _)); refine blk_far ?_ NB246_252.out _; (with_reducible repeat (first | refine blk_drewN ?_ _ | refine blk_drew ?_ | refine blk_alloc ?_ _)); refine blk_far ?_ NB246_252.out _; (with_reducible repeat (first | refine blk_drewN ?_ _ | refine blk_drew ?_ | refine blk_alloc ?_ _)); refine blk_far ?_ NB246_252.out _; (with_reducible repeat (first | refine blk_drewN ?_ _ | refine blk_drew ?_ | refine blk_alloc ?_ _)); exact BK246.out) hb); have n6_ := Aside0.mk (blk_below (g := gb252) (o := .cells #[.int .i64 t247, .slice Ao29 t248.length co29, .int .i64 t251] 30 (0, 0)) (by (with_reducible repeat (first | refine blk_drewN ?_ _ | refine blk_drew ?_ | refine blk_alloc ?_ _)); refine blk_put (cs := #[.int .i64 t247, .slice Ao29 t248.length co29, .int .i64 0]) ?_ 2 _ rfl; (with_reducible repeat (first | refine blk_drewN ?_ _ | refine blk_drew ?_ | refine blk_alloc ?_ _)); refine blk_put (cs := #[.int .i64 t247, .slice none 0 0, .int .i64 0]) ?_ 1 _ rfl; (with_reducible repeat (first | refine blk_drewN ?_ _ | refine blk_drew ?_ | refine blk_alloc ?_ _)); refine blk_put (cs := #[.int .i64 0, .slice none 0 0, .int .i64 0]) ?_ 0 _ rfl; (with_reducible repeat (first | refine blk_drewN ?_ _ | refine blk_drew ?_ | refine blk_alloc ?_ _)); exact BK252.out) hb); have n7_ := Aside0.mk (below_step (bq_) hb); clear HO238; clear HO243; clear HO250; clear BK233; clear BK246; clear BK252; clear HB; have HO238 := n0_; have HO243 := n1_; have HO250 := n2_; have HO256 := n3_; have BK233 := n4_; have BK246 := n5_; have BK252 := n6_; have HB := n7_; clear n0_ n1_ n2_ n3_ n4_ n5_ n6_ n7_; (try clear hb); (try clear hb2); (try clear hk); (try clear hi); (try clear ho0)) | ((with_reducible refine gate_dst (N := 7) rfl ?_); refine boxq_ (N := 7) (cs := #[.int .i64 0, .slice none 0 0, .int .i64 0]) (t := 30) ?_; intro gb259 hg w31 hbox hb; have n0_ := Aside0.mk (Kd.R_below (rq_ HO238.out) hb); have n1_ := Aside0.mk (Kd.R_below (rq_ HO243.out) hb); have n2_ := Aside0.mk (Kd.R_below (rq_ HO250.out) hb); have n3_ := Aside0.mk (Kd.R_below (rq_ HO256.out) hb); have n4_ := Aside0.mk (blk_below (bk_ BK233.out) hb); have n5_ := Aside0.mk (blk_below (bk_ BK246.out) hb); have n6_ := Aside0.mk (blk_below (bk_ BK252.out) hb); have n7_ := Aside0.mk (below_step (bq_) hb); have n8_ := Aside0.mk (hbox); have n9_ := Aside0.mk ((by rw [hg]; exact (below_size (bq_)) : w.heap.size ≤ gb259)); have n10_ := Aside0.mk ((by rw [hg]; exact (below_size (bq_)) : w.heap.size ≤ gb259)); have n11_ := Aside0.mk ((by rw [hg]; exact Nat.ne_of_lt (blk_lt (bk_ BK233.out)) : gb233 ≠ gb259)); have n12_ := Aside0.mk ((by rw [hg]; exact Nat.ne_of_gt (blk_lt (bk_ BK233.out)) : gb259 ≠ gb233)); have n13_ := Aside0.mk ((by rw [hg]; exact Nat.ne_of_lt (blk_lt (bk_ BK246.out)) : gb246 ≠ gb259)); have n14_ := Aside0.mk ((by rw [hg]; exact Nat.ne_of_gt (blk_lt (bk_ BK246.out)) : gb259 ≠ gb246)); have n15_ := Aside0.mk ((by rw [hg]; exact Nat.ne_of_lt (blk_lt (bk_ BK252.out)) : gb252 ≠ gb259)); have n16_ := Aside0.mk ((by rw [hg]; exact Nat.ne_of_gt (blk_lt (bk_ BK252.out)) : gb259 ≠ gb252)); clear HO238; clear HO243; clear HO250; clear HO256; clear BK233; clear BK246; clear BK252; clear HB; have HO238 := n0_; have HO243 := n1_; have HO250 := n2_; have HO256 := n3_; have BK233 := n4_; have BK246 := n5_; have BK252 := n6_; have HB := n7_; have BK259 := n8_; have GW259 := n9_; have GE259 := n10_; have NB233_259 := n11_; have NB259_233 := n12_; have NB246_259 := n13_; have NB259_246 := n14_; have NB252_259 := n15_; have NB259_252 := n16_; clear n0_ n1_ n2_ n3_ n4_ n5_ n6_ n7_ n8_ n9_ n10_ n11_ n12_ n13_ n14_ n15_ n16_; clear hb hbox hg; have hnb32 := NB259_233.out; have hnc32 := NB233_259.out; have hnb33 := NB259_246.out; have hnc33 := NB246_259.out; have hnb34 := NB259_252.out; have hnc34 := NB252_259.out; have hcz35_0 := cq_ BK259.out 0 (.int .i64 0); have hcz35_1 := cq_ BK259.out 1 (.slice none 0 0); have hcz35_2 := cq_ BK259.out 2 (.int .i64 0); have hfz35_0 := blk_frozen BK259.out 0; have hfz35_1 := blk_frozen BK259.out 1; have hfz35_2 := blk_frozen BK259.out 2; obtain ⟨Ao36, co36, eo36⟩ := Kd.R_slice HO256.out; subst eo36))
    (try simp only [Act.put, List.setIfInBounds_toArray, List.set_cons_zero, List.set_cons_succ])
    go_cut [40] (fun v40 wc => ∃ (kq : Nat) (x40_10 : Bool), v40 = .bool x40_10 ∧ Aside0 (laws_FnExactNotOf.j0 kq t245 t258 x40_10 a0_0 l0_1 a0_2 t240 t241 t244 t247 t248 t251 t253 t254 t257 = some r) ∧ Aside0 (kq ≤ k) ∧ Aside0 (Kd.R k75 75 wc w.heap.size (fun k_ => some k_ ≠ ((.slice Ao29 t248.length co29) : Value).ownBlock ∧ some k_ ≠ ((.slice Ao36 t254.length co36) : Value).ownBlock) (.slice Ao22 t241.length co22) t241) ∧ Aside0 (Kd.R k75 75 wc w.heap.size (fun k_ => some k_ ≠ ((.slice Ao22 t241.length co22) : Value).ownBlock ∧ some k_ ≠ ((.slice Ao36 t254.length co36) : Value).ownBlock) (.slice Ao29 t248.length co29) t248) ∧ Aside0 (Kd.R k75 75 wc w.heap.size (fun k_ => some k_ ≠ ((.slice Ao22 t241.length co22) : Value).ownBlock ∧ some k_ ≠ ((.slice Ao29 t248.length co29) : Value).ownBlock) (.slice Ao36 t254.length co36) t254) ∧ Aside0 (wc.heap[gb233]? = some (.cells #[.int .i64 a0_0, (.slice A0_1 l0_1.length c0_1), .int .i64 a0_2] 24 (0, 0))) ∧ Aside0 (wc.heap[gb246]? = some (.cells #[.int .i64 t240, (.slice Ao22 t241.length co22), .int .i64 t244] 30 (0, 0))) ∧ Aside0 (wc.heap[gb252]? = some (.cells #[.int .i64 t247, (.slice Ao29 t248.length co29), .int .i64 t251] 30 (0, 0))) ∧ Aside0 (wc.heap[gb259]? = some (.cells #[.int .i64 t253, (.slice Ao36 t254.length co36), .int .i64 t257] 30 (0, 0))) ∧ Aside0 (Below w.heap.size w wc))
    case first =>
      have H := HC11.out
      clear HC11
      replace H := Option.bind_eq_some_iff.mp H
      obtain ⟨t260, A370, H⟩ := H
      replace H : (if t260 = true then (laws_FnExactNotOf.j0 k t245 t258 (t258 != t245) a0_0 l0_1 a0_2 t240 t241 t244 t247 t248 t251 t253 t254 t257) else (laws_FnExactNotOf.j0 k t245 t258 true a0_0 l0_1 a0_2 t240 t241 t244 t247 t248 t251 t253 t254 t257)) = some r := H
      have A37 := Aside0.mk A370
      clear A370
      by_cases c38 : t260 = true
      · subst c38
        have H1 : (laws_FnExactNotOf.j0 k t245 t258 (t258 != t245) a0_0 l0_1 a0_2 t240 t241 t244 t247 t248 t251 t253 t254 t257) = some r := by rw [if_pos rfl] at H; exact H
        clear H
        have H := H1
        clear H1
        have H' := Aside0.mk H
        clear H
        have hnb39 := NB259_233.out
        have hnc39 := NB233_259.out
        have hnb40 := NB259_246.out
        have hnc40 := NB246_259.out
        have hnb41 := NB259_252.out
        have hnc41 := NB252_259.out
        have hcz42_0 := cq_ BK259.out 0 (.int .i64 0)
        have hcz42_1 := cq_ BK259.out 1 (.slice none 0 0)
        have hcz42_2 := cq_ BK259.out 2 (.int .i64 0)
        have hfz42_0 := blk_frozen BK259.out 0
        have hfz42_1 := blk_frozen BK259.out 1
        have hfz42_2 := blk_frozen BK259.out 2
        have hnb43 := NB246_233.out
        have hnc43 := NB233_246.out
        have hnb44 := NB246_252.out
        have hnc44 := NB252_246.out
        have hcz45_0 := cq_ BK246.out 0 (.int .i64 t240)
        have hcz45_1 := cq_ BK246.out 1 (.slice Ao22 t241.length co22)
        have hcz45_2 := cq_ BK246.out 2 (.int .i64 t244)
        have hfz45_0 := blk_frozen BK246.out 0
        have hfz45_1 := blk_frozen BK246.out 1
        have hfz45_2 := blk_frozen BK246.out 2
        go_wp2_with (first | ((with_reducible refine gate_callee (f := 16) rfl ?_); refine goesL_ (some 34) rfl rfl Try.func16 (by kernel_rfl) rfl #[.agg #[.int .i64 t253, .slice Ao36 t254.length co36, .int .i64 t257], .agg #[.int .i64 t240, .slice Ao22 t241.length co22, .int .i64 t244]] rfl (by (try simp only [List.map_toArray, List.map_cons, List.map_nil]); first | done | rfl | (simp only [List.length_drop, List.length_take]; rfl)) ?_; (with_reducible refine (laws_eqDiagram.calls k t253 _ _ t254 t257 t240 _ _ t241 t244 true _ ?side1 ?side2 ?side3 ?side4 A37.out).mono ?_); (case side1 => refine (Kd.R_reads' (e := 75) (base := w.heap.size) (ok := fun k_ => (((True ∧ some k_ ≠ (.slice Ao17 t236.length co17 : Value).ownBlock) ∧ some k_ ≠ (.slice Ao22 t241.length co22 : Value).ownBlock) ∧ some k_ ≠ (.slice Ao29 t248.length co29 : Value).ownBlock)) (n := t254.length) (c := co36) ?_).2.2; exact (rq_ ((Kd.R_mono (Kd.R_far (p := ⟨gb259, 2, none⟩) (Kd.R_far (p := ⟨gb259, 1, none⟩) (Kd.R_far (p := ⟨gb259, 0, none⟩) (Kd.R_types HO256.out BK259.out (by decide)) (fun _ hk => hk.2) (.int .i64 t253)) (fun _ hk => hk.2) (.slice Ao36 t254.length co36)) (fun _ hk => hk.2) (.int .i64 t257)) (fun _ h_ => h_.1))))); (case side2 => exact (Kd.R_reads' HO256.out).2.1); (case side3 => refine (Kd.R_reads' (e := 75) (base := w.heap.size) (ok := fun k_ => (((True ∧ some k_ ≠ (.slice Ao17 t236.length co17 : Value).ownBlock) ∧ some k_ ≠ (.slice Ao29 t248.length co29 : Value).ownBlock) ∧ some k_ ≠ (.slice Ao36 t254.length co36 : Value).ownBlock)) (n := t241.length) (c := co22) ?_).2.2; exact (rq_ ((Kd.R_mono (Kd.R_far (p := ⟨gb259, 2, none⟩) (Kd.R_far (p := ⟨gb259, 1, none⟩) (Kd.R_far (p := ⟨gb259, 0, none⟩) (Kd.R_types HO243.out BK259.out (by decide)) (fun _ hk => hk.2) (.int .i64 t253)) (fun _ hk => hk.2) (.slice Ao36 t254.length co36)) (fun _ hk => hk.2) (.int .i64 t257)) (fun _ h_ => h_.1))))); (case side4 => exact (Kd.R_reads' HO243.out).2.1); rintro e w46 ⟨rfl, hb⟩; refine ⟨_, rfl, ?_⟩; have n0_ := Aside0.mk (Kd.R_below (rq_ ((Kd.R_mono (Kd.R_far (p := ⟨gb259, 2, none⟩) (Kd.R_far (p := ⟨gb259, 1, none⟩) (Kd.R_far (p := ⟨gb259, 0, none⟩) (Kd.R_types HO238.out BK259.out (by decide)) (fun _ hk => hk.2) (.int .i64 t253)) (fun _ hk => hk.2) (.slice Ao36 t254.length co36)) (fun _ hk => hk.2) (.int .i64 t257)) (fun _ h_ => h_.1)))) hb); have n1_ := Aside0.mk (Kd.R_below (rq_ ((Kd.R_mono (Kd.R_far (p := ⟨gb259, 2, none⟩) (Kd.R_far (p := ⟨gb259, 1, none⟩) (Kd.R_far (p := ⟨gb259, 0, none⟩) (Kd.R_types HO243.out BK259.out (by decide)) (fun _ hk => hk.2) (.int .i64 t253)) (fun _ hk => hk.2) (.slice Ao36 t254.length co36)) (fun _ hk => hk.2) (.int .i64 t257)) (fun _ h_ => h_.1)))) hb); have n2_ := Aside0.mk (Kd.R_below (rq_ ((Kd.R_mono (Kd.R_far (p := ⟨gb259, 2, none⟩) (Kd.R_far (p := ⟨gb259, 1, none⟩) (Kd.R_far (p := ⟨gb259, 0, none⟩) (Kd.R_types HO250.out BK259.out (by decide)) (fun _ hk => hk.2) (.int .i64 t253)) (fun _ hk => hk.2) (.slice Ao36 t254.length co36)) (fun _ hk => hk.2) (.int .i64 t257)) (fun _ h_ => h_.1)))) hb); have n3_ := Aside0.mk (Kd.R_below (rq_ ((Kd.R_mono (Kd.R_far (p := ⟨gb259, 2, none⟩) (Kd.R_far (p := ⟨gb259, 1, none⟩) (Kd.R_far (p := ⟨gb259, 0, none⟩) (Kd.R_types HO256.out BK259.out (by decide)) (fun _ hk => hk.2) (.int .i64 t253)) (fun _ hk => hk.2) (.slice Ao36 t254.length co36)) (fun _ hk => hk.2) (.int .i64 t257)) (fun _ h_ => h_.1)))) hb); have n4_ := Aside0.mk (blk_below (g := gb233) (o := .cells #[.int .i64 a0_0, .slice A0_1 l0_1.length c0_1, .int .i64 a0_2] 24 (0, 0)) (by (with_reducible repeat (first | refine blk_drewN ?_ _ | refine blk_drew ?_ | refine blk_alloc ?_ _)); refine blk_far ?_ NB233_259.out _; (with_reducible repeat (first | refine blk_drewN ?_ _ | refine blk_drew ?_ | refine blk_alloc ?_ _)); refine blk_far ?_ NB233_259.out _; (with_reducible repeat (first | refine blk_drewN ?_ _ | refine blk_drew ?_ | refine blk_alloc ?_ _)); refine blk_far ?_ NB233_259.out _; (with_reducible repeat (first | refine blk_drewN ?_ _ | refine blk_drew ?_ | refine blk_alloc ?_ _)); exact BK233.out) hb); have n5_ := Aside0.mk (blk_below (g := gb246) (o := .cells #[.int .i64 t240, .slice Ao22 t241.length co22, .int .i64 t244] 30 (0, 0)) (by (with_reducible repeat (first | refine blk_drewN ?_ _ | refine blk_drew ?_ | refine blk_alloc ?_ _)); refine blk_far ?_ NB246_259.out _; (with_reducible repeat (first | refine blk_drewN ?_ _ | refine blk_drew ?_ | refine blk_alloc ?_ _)); refine blk_far ?_ NB246_259.out _; (with_reducible repeat (first | refine blk_drewN ?_ _ | refine blk_drew ?_ | refine blk_alloc ?_ _)); refine blk_far ?_ NB246_259.out _; (with_reducible repeat (first | refine blk_drewN ?_ _ | refine blk_drew ?_ | refine blk_alloc ?_ _)); exact BK246.out) hb); have n6_ := Aside0.mk (blk_below (g := gb252) (o := .cells #[.int .i64 t247, .slice Ao29 t248.length co29, .int .i64 t251] 30 (0, 0)) (by (with_reducible repeat (first | refine blk_drewN ?_ _ | refine blk_drew ?_ | refine blk_alloc ?_ _)); refine blk_far ?_ NB252_259.out _; (with_reducible repeat (first | refine blk_drewN ?_ _ | refine blk_drew ?_ | refine blk_alloc ?_ _)); refine blk_far ?_ NB252_259.out _; (with_reducible repeat (first | refine blk_drewN ?_ _ | refine blk_drew ?_ | refine blk_alloc ?_ _)); refine blk_far ?_ NB252_259.out _; (with_reducible repeat (first | refine blk_drewN ?_ _ | refine blk_drew ?_ | refine blk_alloc ?_ _)); exact BK252.out) hb); have n7_ := Aside0.mk (blk_below (g := gb259) (o := .cells #[.int .i64 t253, .slice Ao36 t254.length co36, .int .i64 t257] 30 (0, 0)) (by (with_reducible repeat (first | refine blk_drewN ?_ _ | refine blk_drew ?_ | refine blk_alloc ?_ _)); refine blk_put (cs := #[.int .i64 t253, .slice Ao36 t254.length co36, .int .i64 0]) ?_ 2 _ rfl; (with_reducible repeat (first | refine blk_drewN ?_ _ | refine blk_drew ?_ | refine blk_alloc ?_ _)); refine blk_put (cs := #[.int .i64 t253, .slice none 0 0, .int .i64 0]) ?_ 1 _ rfl; (with_reducible repeat (first | refine blk_drewN ?_ _ | refine blk_drew ?_ | refine blk_alloc ?_ _)); refine blk_put (cs := #[.int .i64 0, .slice none 0 0, .int .i64 0]) ?_ 0 _ rfl; (with_reducible repeat (first | refine blk_drewN ?_ _ | refine blk_drew ?_ | refine blk_alloc ?_ _)); exact BK259.out) hb); have n8_ := Aside0.mk (below_step (bq_) hb); clear HO238; clear HO243; clear HO250; clear HO256; clear BK233; clear BK246; clear BK252; clear BK259; clear HB; have HO238 := n0_; have HO243 := n1_; have HO250 := n2_; have HO256 := n3_; have BK233 := n4_; have BK246 := n5_; have BK252 := n6_; have BK259 := n7_; have HB := n8_; clear n0_ n1_ n2_ n3_ n4_ n5_ n6_ n7_ n8_; (try clear hb); (try clear hb2); (try clear hk); (try clear hi)))
        go_meet
        case rel => exact ⟨_, ((t258 != t245)), (by first | rfl | (simp; done) | (simp [*]; done)), H', ⟨by first | omega | exact Nat.le_refl _⟩, ⟨rq_ (Kd.R_mono HO243.out (fun _ hk => ⟨hk.1.2, hk.2⟩))⟩, ⟨rq_ (Kd.R_mono HO250.out (fun _ hk => ⟨hk.1.2, hk.2⟩))⟩, ⟨rq_ (Kd.R_mono HO256.out (fun _ hk => ⟨hk.1.2, hk.2⟩))⟩, ⟨bk_ BK233.out⟩, ⟨bk_ BK246.out⟩, ⟨bk_ BK252.out⟩, ⟨bk_ BK259.out⟩, ⟨bq_⟩⟩
      · replace c38 := Bool.eq_false_iff.mpr c38
        subst c38
        have H1 : (laws_FnExactNotOf.j0 k t245 t258 true a0_0 l0_1 a0_2 t240 t241 t244 t247 t248 t251 t253 t254 t257) = some r := by rw [if_neg (show ¬ (false = true) by decide)] at H; exact H
        clear H
        have H := H1
        clear H1
        have H' := Aside0.mk H
        clear H
        have hnb47 := NB259_233.out
        have hnc47 := NB233_259.out
        have hnb48 := NB259_246.out
        have hnc48 := NB246_259.out
        have hnb49 := NB259_252.out
        have hnc49 := NB252_259.out
        have hcz50_0 := cq_ BK259.out 0 (.int .i64 0)
        have hcz50_1 := cq_ BK259.out 1 (.slice none 0 0)
        have hcz50_2 := cq_ BK259.out 2 (.int .i64 0)
        have hfz50_0 := blk_frozen BK259.out 0
        have hfz50_1 := blk_frozen BK259.out 1
        have hfz50_2 := blk_frozen BK259.out 2
        have hnb51 := NB246_233.out
        have hnc51 := NB233_246.out
        have hnb52 := NB246_252.out
        have hnc52 := NB252_246.out
        have hcz53_0 := cq_ BK246.out 0 (.int .i64 t240)
        have hcz53_1 := cq_ BK246.out 1 (.slice Ao22 t241.length co22)
        have hcz53_2 := cq_ BK246.out 2 (.int .i64 t244)
        have hfz53_0 := blk_frozen BK246.out 0
        have hfz53_1 := blk_frozen BK246.out 1
        have hfz53_2 := blk_frozen BK246.out 2
        go_wp2_with (first | ((with_reducible refine gate_callee (f := 16) rfl ?_); refine goesL_ (some 34) rfl rfl Try.func16 (by kernel_rfl) rfl #[.agg #[.int .i64 t253, .slice Ao36 t254.length co36, .int .i64 t257], .agg #[.int .i64 t240, .slice Ao22 t241.length co22, .int .i64 t244]] rfl (by (try simp only [List.map_toArray, List.map_cons, List.map_nil]); first | done | rfl | (simp only [List.length_drop, List.length_take]; rfl)) ?_; (with_reducible refine (laws_eqDiagram.calls k t253 _ _ t254 t257 t240 _ _ t241 t244 false _ ?side1 ?side2 ?side3 ?side4 A37.out).mono ?_); (case side1 => refine (Kd.R_reads' (e := 75) (base := w.heap.size) (ok := fun k_ => (((True ∧ some k_ ≠ (.slice Ao17 t236.length co17 : Value).ownBlock) ∧ some k_ ≠ (.slice Ao22 t241.length co22 : Value).ownBlock) ∧ some k_ ≠ (.slice Ao29 t248.length co29 : Value).ownBlock)) (n := t254.length) (c := co36) ?_).2.2; exact (rq_ ((Kd.R_mono (Kd.R_far (p := ⟨gb259, 2, none⟩) (Kd.R_far (p := ⟨gb259, 1, none⟩) (Kd.R_far (p := ⟨gb259, 0, none⟩) (Kd.R_types HO256.out BK259.out (by decide)) (fun _ hk => hk.2) (.int .i64 t253)) (fun _ hk => hk.2) (.slice Ao36 t254.length co36)) (fun _ hk => hk.2) (.int .i64 t257)) (fun _ h_ => h_.1))))); (case side2 => exact (Kd.R_reads' HO256.out).2.1); (case side3 => refine (Kd.R_reads' (e := 75) (base := w.heap.size) (ok := fun k_ => (((True ∧ some k_ ≠ (.slice Ao17 t236.length co17 : Value).ownBlock) ∧ some k_ ≠ (.slice Ao29 t248.length co29 : Value).ownBlock) ∧ some k_ ≠ (.slice Ao36 t254.length co36 : Value).ownBlock)) (n := t241.length) (c := co22) ?_).2.2; exact (rq_ ((Kd.R_mono (Kd.R_far (p := ⟨gb259, 2, none⟩) (Kd.R_far (p := ⟨gb259, 1, none⟩) (Kd.R_far (p := ⟨gb259, 0, none⟩) (Kd.R_types HO243.out BK259.out (by decide)) (fun _ hk => hk.2) (.int .i64 t253)) (fun _ hk => hk.2) (.slice Ao36 t254.length co36)) (fun _ hk => hk.2) (.int .i64 t257)) (fun _ h_ => h_.1))))); (case side4 => exact (Kd.R_reads' HO243.out).2.1); rintro e w54 ⟨rfl, hb⟩; refine ⟨_, rfl, ?_⟩; have n0_ := Aside0.mk (Kd.R_below (rq_ ((Kd.R_mono (Kd.R_far (p := ⟨gb259, 2, none⟩) (Kd.R_far (p := ⟨gb259, 1, none⟩) (Kd.R_far (p := ⟨gb259, 0, none⟩) (Kd.R_types HO238.out BK259.out (by decide)) (fun _ hk => hk.2) (.int .i64 t253)) (fun _ hk => hk.2) (.slice Ao36 t254.length co36)) (fun _ hk => hk.2) (.int .i64 t257)) (fun _ h_ => h_.1)))) hb); have n1_ := Aside0.mk (Kd.R_below (rq_ ((Kd.R_mono (Kd.R_far (p := ⟨gb259, 2, none⟩) (Kd.R_far (p := ⟨gb259, 1, none⟩) (Kd.R_far (p := ⟨gb259, 0, none⟩) (Kd.R_types HO243.out BK259.out (by decide)) (fun _ hk => hk.2) (.int .i64 t253)) (fun _ hk => hk.2) (.slice Ao36 t254.length co36)) (fun _ hk => hk.2) (.int .i64 t257)) (fun _ h_ => h_.1)))) hb); have n2_ := Aside0.mk (Kd.R_below (rq_ ((Kd.R_mono (Kd.R_far (p := ⟨gb259, 2, none⟩) (Kd.R_far (p := ⟨gb259, 1, none⟩) (Kd.R_far (p := ⟨gb259, 0, none⟩) (Kd.R_types HO250.out BK259.out (by decide)) (fun _ hk => hk.2) (.int .i64 t253)) (fun _ hk => hk.2) (.slice Ao36 t254.length co36)) (fun _ hk => hk.2) (.int .i64 t257)) (fun _ h_ => h_.1)))) hb); have n3_ := Aside0.mk (Kd.R_below (rq_ ((Kd.R_mono (Kd.R_far (p := ⟨gb259, 2, none⟩) (Kd.R_far (p := ⟨gb259, 1, none⟩) (Kd.R_far (p := ⟨gb259, 0, none⟩) (Kd.R_types HO256.out BK259.out (by decide)) (fun _ hk => hk.2) (.int .i64 t253)) (fun _ hk => hk.2) (.slice Ao36 t254.length co36)) (fun _ hk => hk.2) (.int .i64 t257)) (fun _ h_ => h_.1)))) hb); have n4_ := Aside0.mk (blk_below (g := gb233) (o := .cells #[.int .i64 a0_0, .slice A0_1 l0_1.length c0_1, .int .i64 a0_2] 24 (0, 0)) (by (with_reducible repeat (first | refine blk_drewN ?_ _ | refine blk_drew ?_ | refine blk_alloc ?_ _)); refine blk_far ?_ NB233_259.out _; (with_reducible repeat (first | refine blk_drewN ?_ _ | refine blk_drew ?_ | refine blk_alloc ?_ _)); refine blk_far ?_ NB233_259.out _; (with_reducible repeat (first | refine blk_drewN ?_ _ | refine blk_drew ?_ | refine blk_alloc ?_ _)); refine blk_far ?_ NB233_259.out _; (with_reducible repeat (first | refine blk_drewN ?_ _ | refine blk_drew ?_ | refine blk_alloc ?_ _)); exact BK233.out) hb); have n5_ := Aside0.mk (blk_below (g := gb246) (o := .cells #[.int .i64 t240, .slice Ao22 t241.length co22, .int .i64 t244] 30 (0, 0)) (by (with_reducible repeat (first | refine blk_drewN ?_ _ | refine blk_drew ?_ | refine blk_alloc ?_ _)); refine blk_far ?_ NB246_259.out _; (with_reducible repeat (first | refine blk_drewN ?_ _ | refine blk_drew ?_ | refine blk_alloc ?_ _)); refine blk_far ?_ NB246_259.out _; (with_reducible repeat (first | refine blk_drewN ?_ _ | refine blk_drew ?_ | refine blk_alloc ?_ _)); refine blk_far ?_ NB246_259.out _; (with_reducible repeat (first | refine blk_drewN ?_ _ | refine blk_drew ?_ | refine blk_alloc ?_ _)); exact BK246.out) hb); have n6_ := Aside0.mk (blk_below (g := gb252) (o := .cells #[.int .i64 t247, .slice Ao29 t248.length co29, .int .i64 t251] 30 (0, 0)) (by (with_reducible repeat (first | refine blk_drewN ?_ _ | refine blk_drew ?_ | refine blk_alloc ?_ _)); refine blk_far ?_ NB252_259.out _; (with_reducible repeat (first | refine blk_drewN ?_ _ | refine blk_drew ?_ | refine blk_alloc ?_ _)); refine blk_far ?_ NB252_259.out _; (with_reducible repeat (first | refine blk_drewN ?_ _ | refine blk_drew ?_ | refine blk_alloc ?_ _)); refine blk_far ?_ NB252_259.out _; (with_reducible repeat (first | refine blk_drewN ?_ _ | refine blk_drew ?_ | refine blk_alloc ?_ _)); exact BK252.out) hb); have n7_ := Aside0.mk (blk_below (g := gb259) (o := .cells #[.int .i64 t253, .slice Ao36 t254.length co36, .int .i64 t257] 30 (0, 0)) (by (with_reducible repeat (first | refine blk_drewN ?_ _ | refine blk_drew ?_ | refine blk_alloc ?_ _)); refine blk_put (cs := #[.int .i64 t253, .slice Ao36 t254.length co36, .int .i64 0]) ?_ 2 _ rfl; (with_reducible repeat (first | refine blk_drewN ?_ _ | refine blk_drew ?_ | refine blk_alloc ?_ _)); refine blk_put (cs := #[.int .i64 t253, .slice none 0 0, .int .i64 0]) ?_ 1 _ rfl; (with_reducible repeat (first | refine blk_drewN ?_ _ | refine blk_drew ?_ | refine blk_alloc ?_ _)); refine blk_put (cs := #[.int .i64 0, .slice none 0 0, .int .i64 0]) ?_ 0 _ rfl; (with_reducible repeat (first | refine blk_drewN ?_ _ | refine blk_drew ?_ | refine blk_alloc ?_ _)); exact BK259.out) hb); have n8_ := Aside0.mk (below_step (bq_) hb); clear HO238; clear HO243; clear HO250; clear HO256; clear BK233; clear BK246; clear BK252; clear BK259; clear HB; have HO238 := n0_; have HO243 := n1_; have HO250 := n2_; have HO256 := n3_; have BK233 := n4_; have BK246 := n5_; have BK252 := n6_; have BK259 := n7_; have HB := n8_; clear n0_ n1_ n2_ n3_ n4_ n5_ n6_ n7_ n8_; (try clear hb); (try clear hb2); (try clear hk); (try clear hi)))
        go_meet
        case rel => exact ⟨_, (true), (by first | rfl | (simp; done) | (simp [*]; done)), H', ⟨by first | omega | exact Nat.le_refl _⟩, ⟨rq_ (Kd.R_mono HO243.out (fun _ hk => ⟨hk.1.2, hk.2⟩))⟩, ⟨rq_ (Kd.R_mono HO250.out (fun _ hk => ⟨hk.1.2, hk.2⟩))⟩, ⟨rq_ (Kd.R_mono HO256.out (fun _ hk => ⟨hk.1.2, hk.2⟩))⟩, ⟨bk_ BK233.out⟩, ⟨bk_ BK246.out⟩, ⟨bk_ BK252.out⟩, ⟨bk_ BK259.out⟩, ⟨bq_⟩⟩
    case rest =>
      clear HC11
      try clear c1
      try clear c2
      try clear p2
      try clear c3
      try clear c3b0
      try clear c4
      try clear c5
      try clear c6
      try clear c12
      try clear c14
      try clear c16
      try clear c20
      try clear c26
      try clear c27
      try clear c32
      try clear c33
      try clear c34
      try clear c38
      try clear c39
      try clear c40
      try clear c41
      try clear c43
      try clear c44
      try clear c47
      try clear c48
      try clear c49
      try clear c51
      try clear c52
      try clear hcz13_0
      try clear hcz13_1
      try clear hcz13_2
      try clear hcz15_0
      try clear hcz15_1
      try clear hcz15_2
      try clear hcz21_0
      try clear hcz21_1
      try clear hcz21_2
      try clear hcz23_0
      try clear hcz23_1
      try clear hcz23_2
      try clear hcz28_0
      try clear hcz28_1
      try clear hcz28_2
      try clear hcz35_0
      try clear hcz35_1
      try clear hcz35_2
      try clear hcz42_0
      try clear hcz42_1
      try clear hcz42_2
      try clear hcz45_0
      try clear hcz45_1
      try clear hcz45_2
      try clear hcz50_0
      try clear hcz50_1
      try clear hcz50_2
      try clear hcz53_0
      try clear hcz53_1
      try clear hcz53_2
      try clear hcz5_0
      try clear hcz5_1
      try clear hcz5_2
      try clear hfz13_0
      try clear hfz13_1
      try clear hfz13_2
      try clear hfz15_0
      try clear hfz15_1
      try clear hfz15_2
      try clear hfz21_0
      try clear hfz21_1
      try clear hfz21_2
      try clear hfz23_0
      try clear hfz23_1
      try clear hfz23_2
      try clear hfz28_0
      try clear hfz28_1
      try clear hfz28_2
      try clear hfz35_0
      try clear hfz35_1
      try clear hfz35_2
      try clear hfz42_0
      try clear hfz42_1
      try clear hfz42_2
      try clear hfz45_0
      try clear hfz45_1
      try clear hfz45_2
      try clear hfz50_0
      try clear hfz50_1
      try clear hfz50_2
      try clear hfz53_0
      try clear hfz53_1
      try clear hfz53_2
      try clear hfz5_0
      try clear hfz5_1
      try clear hfz5_2
      obtain ⟨kq, x40_10, rfl, HA, HJ10, HO_247001, HO_253001, HO_260001, BK233, BK246, BK252, BK259, HB⟩ := hcut
      cases kq with
      | zero => exact absurd HA.out (by simp [laws_FnExactNotOf.j0])
      | succ kj10 =>
        have H := HA.out
        clear HA
        simp only [laws_FnExactNotOf.j0] at H
        by_cases c55 : x40_10 = true
        · subst c55
          have H1 : (some false) = some r := by rw [if_pos rfl] at H; exact H
          clear H
          have H := H1
          clear H1
          exact absurd (Option.some.inj H).symm (by rw [hr_.out]; simp)
        · replace c55 := Bool.eq_false_iff.mpr c55
          subst c55
          have H1 : ((laws_toDiagram.f kj10 a0_0 l0_1 a0_2).bind fun bt261 => ((laws_eqDiagram.f kj10 t247 t248 t251 bt261.1 bt261.2.1 bt261.2.2).bind fun t266 => (if t266 = true then ((laws_markDiagram.f kj10 t247 t248 t251 1).bind fun bt267 => (if bt267.1 < 0 then (laws_FnExactNotOf.j1 kj10 t245 true a0_0 l0_1 a0_2 t240 t241 t244 t253 t254 t257) else ((laws_eqDiagram.f kj10 t253 t254 t257 t240 t241 t244).bind fun t269 => (if t269 = true then (laws_FnExactNotOf.j1 kj10 t245 (t258 != t245) a0_0 l0_1 a0_2 t240 t241 t244 t253 t254 t257) else (laws_FnExactNotOf.j1 kj10 t245 true a0_0 l0_1 a0_2 t240 t241 t244 t253 t254 t257))))) else (some false)))) = some r := by rw [if_neg (show ¬ (false = true) by decide)] at H; exact H
          clear H
          have H := H1
          clear H1
          replace H := Option.bind_eq_some_iff.mp H
          obtain ⟨⟨t261, t262, t265⟩, A560, H⟩ := H
          replace H : ((laws_eqDiagram.f kj10 t247 t248 t251 t261 t262 t265).bind fun t266 => (if t266 = true then ((laws_markDiagram.f kj10 t247 t248 t251 1).bind fun bt267 => (if bt267.1 < 0 then (laws_FnExactNotOf.j1 kj10 t245 true a0_0 l0_1 a0_2 t240 t241 t244 t253 t254 t257) else ((laws_eqDiagram.f kj10 t253 t254 t257 t240 t241 t244).bind fun t269 => (if t269 = true then (laws_FnExactNotOf.j1 kj10 t245 (t258 != t245) a0_0 l0_1 a0_2 t240 t241 t244 t253 t254 t257) else (laws_FnExactNotOf.j1 kj10 t245 true a0_0 l0_1 a0_2 t240 t241 t244 t253 t254 t257))))) else (some false))) = some r := H
          have A56 := Aside0.mk A560
          clear A560
          replace H := Option.bind_eq_some_iff.mp H
          obtain ⟨t266, A570, H⟩ := H
          replace H : (if t266 = true then ((laws_markDiagram.f kj10 t247 t248 t251 1).bind fun bt267 => (if bt267.1 < 0 then (laws_FnExactNotOf.j1 kj10 t245 true a0_0 l0_1 a0_2 t240 t241 t244 t253 t254 t257) else ((laws_eqDiagram.f kj10 t253 t254 t257 t240 t241 t244).bind fun t269 => (if t269 = true then (laws_FnExactNotOf.j1 kj10 t245 (t258 != t245) a0_0 l0_1 a0_2 t240 t241 t244 t253 t254 t257) else (laws_FnExactNotOf.j1 kj10 t245 true a0_0 l0_1 a0_2 t240 t241 t244 t253 t254 t257))))) else (some false)) = some r := H
          have A57 := Aside0.mk A570
          clear A570
          by_cases c58 : t266 = true
          · subst c58
            have H1 : ((laws_markDiagram.f kj10 t247 t248 t251 1).bind fun bt267 => (if bt267.1 < 0 then (laws_FnExactNotOf.j1 kj10 t245 true a0_0 l0_1 a0_2 t240 t241 t244 t253 t254 t257) else ((laws_eqDiagram.f kj10 t253 t254 t257 t240 t241 t244).bind fun t269 => (if t269 = true then (laws_FnExactNotOf.j1 kj10 t245 (t258 != t245) a0_0 l0_1 a0_2 t240 t241 t244 t253 t254 t257) else (laws_FnExactNotOf.j1 kj10 t245 true a0_0 l0_1 a0_2 t240 t241 t244 t253 t254 t257))))) = some r := by rw [if_pos rfl] at H; exact H
            clear H
            have H := H1
            clear H1
            replace H := Option.bind_eq_some_iff.mp H
            obtain ⟨⟨t267, t268⟩, A590, H⟩ := H
            replace H : (if t267 < 0 then (laws_FnExactNotOf.j1 kj10 t245 true a0_0 l0_1 a0_2 t240 t241 t244 t253 t254 t257) else ((laws_eqDiagram.f kj10 t253 t254 t257 t240 t241 t244).bind fun t269 => (if t269 = true then (laws_FnExactNotOf.j1 kj10 t245 (t258 != t245) a0_0 l0_1 a0_2 t240 t241 t244 t253 t254 t257) else (laws_FnExactNotOf.j1 kj10 t245 true a0_0 l0_1 a0_2 t240 t241 t244 t253 t254 t257)))) = some r := H
            have A59 := Aside0.mk A590
            clear A590
            have HC60 := Aside0.mk H
            clear H
            try go_wp2
            have n0_ := Aside0.mk (Kd.R_drew HO_247001.out)
            have n1_ := Aside0.mk (Kd.R_drew HO_253001.out)
            have n2_ := Aside0.mk (Kd.R_drew HO_260001.out)
            have n3_ := Aside0.mk (blk_drew BK233.out)
            have n4_ := Aside0.mk (blk_drew BK246.out)
            have n5_ := Aside0.mk (blk_drew BK252.out)
            have n6_ := Aside0.mk (blk_drew BK259.out)
            have n7_ := Aside0.mk (below_drew1 HB.out)
            clear HO_247001
            clear HO_253001
            clear HO_260001
            clear BK233
            clear BK246
            clear BK252
            clear BK259
            clear HB
            have HO_247001 := n0_
            have HO_253001 := n1_
            have HO_260001 := n2_
            have BK233 := n3_
            have BK246 := n4_
            have BK252 := n5_
            have BK259 := n6_
            have HB := n7_
            clear n0_ n1_ n2_ n3_ n4_ n5_ n6_ n7_
            refine start_ (n := 5) (S := fun w' => w'.cell? ⟨gb252, 0, none⟩ = some (.int .i64 t247) ∧ w'.cell? ⟨gb252, 1, none⟩ = some (.slice Ao29 t248.length co29) ∧ w'.cell? ⟨gb252, 2, none⟩ = some (.int .i64 t251) ∧ w'.cell? ⟨gb233, 0, none⟩ = some (.int .i64 a0_0) ∧ w'.cell? ⟨gb233, 1, none⟩ = some (.slice A0_1 l0_1.length c0_1) ∧ w'.cell? ⟨gb233, 2, none⟩ = some (.int .i64 a0_2)) (ds := []) #[false, false, false, false, false] (by kernel_rfl) rfl rfl ⟨(blk_cell BK252.out 0).trans rfl, (blk_cell BK252.out 1).trans rfl, (blk_cell BK252.out 2).trans rfl, (blk_cell BK233.out 0).trans rfl, (blk_cell BK233.out 1).trans rfl, (blk_cell BK233.out 2).trans rfl⟩ (fun hHeld => ?_)
            generalize wc.drew = w61 at HO_247001 HO_253001 HO_260001 BK233 BK246 BK252 BK259 HB hHeld ⊢
            refine take_ (i := 0) (N := some 41) (v := ?_) (a' := ?_) #[true, false, false, false, false] rfl rfl (by kernel_rfl) (fun _ _ _ h => h) (Or.inl ⟨by rfl, ?_⟩) hHeld ?_ ?_
            rotate_left
            · rintro w' ⟨s0, s1, s2, s3, s4, s5⟩
              go_simp
              with_reducible rfl
            rotate_left
            · simp only [Act.put, List.setIfInBounds_toArray, List.set_cons_zero, List.set_cons_succ, i64_w, i32_w]
              rfl
            refine take_ (i := 1) (N := some 42) (v := ?_) (a' := ?_) #[true, true, false, false, false] rfl rfl (by kernel_rfl) (fun _ _ _ h => h) (Or.inl ⟨by rfl, ?_⟩) hHeld ?_ ?_
            rotate_left
            · rintro w' ⟨s0, s1, s2, s3, s4, s5⟩
              go_simp
              with_reducible rfl
            rotate_left
            · simp only [Act.put, List.setIfInBounds_toArray, List.set_cons_zero, List.set_cons_succ, i64_w, i32_w]
              rfl
            refine one_ (i := 2) (N := some 43) #[true, true, true, false, false] rfl rfl (by kernel_rfl) (by decide) (fun K hK => ?_)
            refine goes_ Try.func14 (by kernel_rfl) rfl #[.agg #[.int .i64 a0_0, .slice A0_1 l0_1.length c0_1, .int .i64 a0_2]] (by rfl) rfl rfl (by (try simp only [List.map_toArray, List.map_cons, List.map_nil]); first | done | rfl | (simp only [List.length_drop, List.length_take]; rfl)) ?_
            with_reducible refine (laws_toDiagram.calls kj10 a0_0 _ _ l0_1 a0_2 t261 t262 t265 _ ?side1 ?side2 A56.out).mono ?_
            (case side1 => repeat (first | exact (Kd.C_below HR0_1.out HB.out) | (with_reducible refine Kd.C_alloc ?_ _) | (with_reducible refine Kd.C_drewN ?_ _) | (with_reducible refine Kd.C_drew ?_)))
            (case side2 => exact HC0_1.out)
            rintro e w62 ⟨v263, rfl, ho0, hb⟩
            refine ⟨_, rfl, ?_⟩
            have n0_ := Aside0.mk (Kd.R_elder' (rq_ HO_247001.out) (Kd.R_base ho0) hb)
            have n1_ := Aside0.mk (Kd.R_elder' (rq_ HO_253001.out) (Kd.R_base ho0) hb)
            have n2_ := Aside0.mk (Kd.R_elder' (rq_ HO_260001.out) (Kd.R_base ho0) hb)
            have n3_ := Aside0.mk (Kd.R_lower (Kd.R_new' (Kd.R_new' (Kd.R_new' ho0 (Kd.R_lt (rq_ HO_247001.out))) (Kd.R_lt (rq_ HO_253001.out))) (Kd.R_lt (rq_ HO_260001.out))) (below_size (bq_)))
            have n4_ := Aside0.mk (blk_below (bk_ BK233.out) hb)
            have n5_ := Aside0.mk (blk_below (bk_ BK246.out) hb)
            have n6_ := Aside0.mk (blk_below (bk_ BK252.out) hb)
            have n7_ := Aside0.mk (blk_below (bk_ BK259.out) hb)
            have n8_ := Aside0.mk (below_step (bq_) hb)
            clear HO_247001
            clear HO_253001
            clear HO_260001
            clear BK233
            clear BK246
            clear BK252
            clear BK259
            clear HB
            have HO_247001 := n0_
            have HO_253001 := n1_
            have HO_260001 := n2_
            have HO264 := n3_
            have BK233 := n4_
            have BK246 := n5_
            have BK252 := n6_
            have BK259 := n7_
            have HB := n8_
            clear n0_ n1_ n2_ n3_ n4_ n5_ n6_ n7_ n8_
            (try clear hb)
            (try clear hb2)
            (try clear hk)
            (try clear hi)
            (try clear ho0)
            obtain ⟨Ao63, co63, eo63⟩ := Kd.R_slice HO264.out
            (first | subst eo63 | (injection eo63 with f1_ f2_ f3_; have f4_ := f1_.symm; have f5_ := f3_.symm; clear f1_ f2_ f3_; subst f4_; subst f5_))
            refine hK.out _ _ ⟨(blk_cell BK252.out 0).trans rfl, (blk_cell BK252.out 1).trans rfl, (blk_cell BK252.out 2).trans rfl, (blk_cell BK233.out 0).trans rfl, (blk_cell BK233.out 1).trans rfl, (blk_cell BK233.out 2).trans rfl⟩ (fun hHeld => ?_)
            clear hK K
            refine norm_ (a' := ?_) ?_ ?_
            rotate_left
            · show Act.put _ (some 43) _ = _
              simp only [Act.put, List.setIfInBounds_toArray, List.set_cons_zero, List.set_cons_succ, i64_w, i32_w]
              rfl
            refine one_ (i := 3) (N := some 44) #[true, true, true, true, false] rfl rfl (by kernel_rfl) (by decide) (fun K hK => ?_)
            refine goes_ Try.func16 (by kernel_rfl) rfl #[.agg #[.int .i64 t247, .slice Ao29 t248.length co29, .int .i64 t251], .agg #[.int .i64 t261, .slice Ao63 t262.length co63, .int .i64 t265]] (by rfl) rfl rfl (by (try simp only [List.map_toArray, List.map_cons, List.map_nil]); first | done | rfl | (simp only [List.length_drop, List.length_take]; rfl)) ?_
            with_reducible refine (laws_eqDiagram.calls kj10 t247 _ _ t248 t251 t261 _ _ t262 t265 true _ ?side1 ?side2 ?side3 ?side4 A57.out).mono ?_
            (case side1 => repeat (first | exact (Kd.R_reads' HO_253001.out).2.2 | (with_reducible refine Kd.C_alloc ?_ _) | (with_reducible refine Kd.C_drewN ?_ _) | (with_reducible refine Kd.C_drew ?_)))
            (case side2 => exact (Kd.R_reads' HO_253001.out).2.1)
            (case side3 => repeat (first | exact (Kd.R_reads' HO264.out).2.2 | (with_reducible refine Kd.C_alloc ?_ _) | (with_reducible refine Kd.C_drewN ?_ _) | (with_reducible refine Kd.C_drew ?_)))
            (case side4 => exact (Kd.R_reads' HO264.out).2.1)
            rintro e w64 ⟨rfl, hb⟩
            refine ⟨_, rfl, ?_⟩
            have n0_ := Aside0.mk (Kd.R_below (rq_ HO_247001.out) hb)
            have n1_ := Aside0.mk (Kd.R_below (rq_ HO_253001.out) hb)
            have n2_ := Aside0.mk (Kd.R_below (rq_ HO_260001.out) hb)
            have n3_ := Aside0.mk (Kd.R_below (rq_ HO264.out) hb)
            have n4_ := Aside0.mk (blk_below (bk_ BK233.out) hb)
            have n5_ := Aside0.mk (blk_below (bk_ BK246.out) hb)
            have n6_ := Aside0.mk (blk_below (bk_ BK252.out) hb)
            have n7_ := Aside0.mk (blk_below (bk_ BK259.out) hb)
            have n8_ := Aside0.mk (below_step (bq_) hb)
            clear HO_247001
            clear HO_253001
            clear HO_260001
            clear HO264
            clear BK233
            clear BK246
            clear BK252
            clear BK259
            clear HB
            have HO_247001 := n0_
            have HO_253001 := n1_
            have HO_260001 := n2_
            have HO264 := n3_
            have BK233 := n4_
            have BK246 := n5_
            have BK252 := n6_
            have BK259 := n7_
            have HB := n8_
            clear n0_ n1_ n2_ n3_ n4_ n5_ n6_ n7_ n8_
            (try clear hb)
            (try clear hb2)
            (try clear hk)
            (try clear hi)
            refine hK.out _ _ ⟨(blk_cell BK252.out 0).trans rfl, (blk_cell BK252.out 1).trans rfl, (blk_cell BK252.out 2).trans rfl, (blk_cell BK233.out 0).trans rfl, (blk_cell BK233.out 1).trans rfl, (blk_cell BK233.out 2).trans rfl⟩ (fun hHeld => ?_)
            clear hK K
            refine norm_ (a' := ?_) ?_ ?_
            rotate_left
            · show Act.put _ (some 44) _ = _
              simp only [Act.put, List.setIfInBounds_toArray, List.set_cons_zero, List.set_cons_succ, i64_w, i32_w]
              rfl
            refine pure_ (i := 4) (N := some 45) (v := ?_) (a' := ?_) #[true, true, true, true, true] rfl rfl (by kernel_rfl) (fun _ _ _ h => h) (Or.inl ⟨by rfl, ?_⟩) ?_ ?_
            rotate_left
            · intro w'
              go_simp
              with_reducible rfl
            rotate_left
            · simp only [Act.put, List.setIfInBounds_toArray, List.set_cons_zero, List.set_cons_succ, i64_w, i32_w]
              rfl
            refine done_ (by kernel_rfl) ?_
            have hnb65 := NB252_233.out
            have hnc65 := NB233_252.out
            have hnb66 := NB252_246.out
            have hnc66 := NB246_252.out
            have hnb67 := NB252_259.out
            have hnc67 := NB259_252.out
            have hcz68_0 := cq_ BK252.out 0 (.int .i64 t247)
            have hcz68_1 := cq_ BK252.out 1 (.slice Ao29 t248.length co29)
            have hcz68_2 := cq_ BK252.out 2 (.int .i64 t251)
            have hfz68_0 := blk_frozen BK252.out 0
            have hfz68_1 := blk_frozen BK252.out 1
            have hfz68_2 := blk_frozen BK252.out 2
            go_upto_region 14 with (first | ((with_reducible refine gate_callee (f := 23) rfl ?_); refine goesL_ (some 48) rfl rfl Try.func23 (by kernel_rfl) rfl #[.agg #[.int .i64 t247, .slice Ao29 t248.length co29, .int .i64 t251], .int .i64 1] rfl (by (try simp only [List.map_toArray, List.map_cons, List.map_nil]); first | done | rfl | (simp only [List.length_drop, List.length_take]; rfl)) ?_; (with_reducible refine (laws_markDiagram.calls kj10 t247 (fun k_ => some k_ = (.slice Ao29 t248.length co29 : Value).ownBlock) (.slice Ao29 t248.length co29) t248 t251 1 t267 t268 w _ ?side1 ?side2 A59.out).mono ?_); (case side1 => repeat (first | (with_reducible first | exact HB.out | apply below_alloc | apply pw_below_drewN | apply below_drew1 | refine below_set ?_ GE233.out | refine below_set ?_ GE246.out | refine below_set ?_ GE252.out | refine below_set ?_ GE259.out) | exact HB.out)); (case side2 => exact Kd.R_tight rfl HO_253001.out); rintro e w69 ⟨rfl, hy0, hb, hkp⟩; refine ⟨_, rfl, ?_⟩; have n0_ := Aside0.mk (Kd.R_mono (ok' := fun k_ => some k_ ≠ (.slice Ao29 t248.length co29 : Value).ownBlock ∧ some k_ ≠ (.slice Ao36 t254.length co36 : Value).ownBlock ∧ some k_ ≠ (.slice Ao63 t262.length co63 : Value).ownBlock) (Kd.R_keptB (HO_247001.out) hkp (fun k_ hk_ hs_ => (hk_.1.1) hs_)) (fun k_ hk_ => ⟨hk_.1.1.1, hk_.1.1.2, hk_.1.2⟩)); have n1_ := Aside0.mk (Kd.R_reok rfl hy0 (fun k_ e_ => HO_253001.out.1 k_ e_)); have n2_ := Aside0.mk (Kd.R_mono (ok' := fun k_ => some k_ ≠ (.slice Ao22 t241.length co22 : Value).ownBlock ∧ some k_ ≠ (.slice Ao29 t248.length co29 : Value).ownBlock ∧ some k_ ≠ (.slice Ao63 t262.length co63 : Value).ownBlock) (Kd.R_keptB (HO_260001.out) hkp (fun k_ hk_ hs_ => (hk_.1.2) hs_)) (fun k_ hk_ => ⟨hk_.1.1.1, hk_.1.1.2, hk_.1.2⟩)); have n3_ := Aside0.mk (blk_kept (bk_ BK233.out) hkp (fun hs_ => (fun e_ => (Kd.R_ne HO_253001.out BK233.out (by decide)) e_) hs_)); have n4_ := Aside0.mk (blk_kept (bk_ BK246.out) hkp (fun hs_ => (fun e_ => (Kd.R_ne HO_253001.out BK246.out (by decide)) e_) hs_)); have n5_ := Aside0.mk (blk_kept (bk_ BK252.out) hkp (fun hs_ => (fun e_ => (Kd.R_ne HO_253001.out BK252.out (by decide)) e_) hs_)); have n6_ := Aside0.mk (blk_kept (bk_ BK259.out) hkp (fun hs_ => (fun e_ => (Kd.R_ne HO_253001.out BK259.out (by decide)) e_) hs_)); have n7_ := Aside0.mk (Kd.R_mono (ok' := fun k_ => some k_ ≠ (.slice Ao22 t241.length co22 : Value).ownBlock ∧ some k_ ≠ (.slice Ao29 t248.length co29 : Value).ownBlock ∧ some k_ ≠ (.slice Ao36 t254.length co36 : Value).ownBlock) (Kd.R_keptB (HO264.out) hkp (fun k_ hk_ hs_ => (hk_.1.2) hs_)) (fun k_ hk_ => ⟨hk_.1.1.1.2, hk_.1.1.2, hk_.1.2⟩)); have n8_ := Aside0.mk (hb); clear HO_247001; clear HO_253001; clear HO_260001; clear BK233; clear BK246; clear BK252; clear BK259; clear HO264; clear HB; have HO_247001 := n0_; have HO_253001 := n1_; have HO_260001 := n2_; have BK233 := n3_; have BK246 := n4_; have BK252 := n5_; have BK259 := n6_; have HO264 := n7_; have HB := n8_; clear n0_ n1_ n2_ n3_ n4_ n5_ n6_ n7_ n8_; (try clear hb); (try clear hkp); (try clear hy0)))
            (try simp only [Act.put, List.setIfInBounds_toArray, List.set_cons_zero, List.set_cons_succ])
            go_cut [61] (fun v61 wc => ∃ (kq : Nat) (x61_59 : Bool), v61 = .bool x61_59 ∧ Aside0 (laws_FnExactNotOf.j1 kq t245 x61_59 a0_0 l0_1 a0_2 t240 t241 t244 t253 t254 t257 = some r) ∧ Aside0 (kq ≤ kj10) ∧ Aside0 (Kd.R k75 75 wc w.heap.size (fun k_ => some k_ ≠ ((.slice Ao29 t248.length co29) : Value).ownBlock ∧ some k_ ≠ ((.slice Ao36 t254.length co36) : Value).ownBlock) (.slice Ao22 t241.length co22) t241) ∧ Aside0 (Kd.R k75 75 wc w.heap.size (fun k_ => some k_ ≠ ((.slice Ao22 t241.length co22) : Value).ownBlock ∧ some k_ ≠ ((.slice Ao36 t254.length co36) : Value).ownBlock) (.slice Ao29 t248.length co29) t268) ∧ Aside0 (Kd.R k75 75 wc w.heap.size (fun k_ => some k_ ≠ ((.slice Ao22 t241.length co22) : Value).ownBlock ∧ some k_ ≠ ((.slice Ao29 t248.length co29) : Value).ownBlock) (.slice Ao36 t254.length co36) t254) ∧ Aside0 (wc.heap[gb233]? = some (.cells #[.int .i64 a0_0, (.slice A0_1 l0_1.length c0_1), .int .i64 a0_2] 24 (0, 0))) ∧ Aside0 (wc.heap[gb246]? = some (.cells #[.int .i64 t240, (.slice Ao22 t241.length co22), .int .i64 t244] 30 (0, 0))) ∧ Aside0 (wc.heap[gb252]? = some (.cells #[.int .i64 t247, (.slice Ao29 t248.length co29), .int .i64 t251] 30 (0, 0))) ∧ Aside0 (wc.heap[gb259]? = some (.cells #[.int .i64 t253, (.slice Ao36 t254.length co36), .int .i64 t257] 30 (0, 0))) ∧ Aside0 (Below w.heap.size w wc))
            case first =>
              have H := HC60.out
              clear HC60
              by_cases c70 : t267 < 0
              · rw [if_pos c70] at H
                have c70b0 : decide (t267 < 0) = true := decide_eq_true c70
                clear c70
                (first | rw [c70b0] | (simp only [i64_w, i32_w]; rw [c70b0]) | skip)
                have H' := Aside0.mk H
                clear H
                go_wp2
                go_meet
                case rel => exact ⟨_, (true), (by first | rfl | (simp; done) | (simp [*]; done)), H', ⟨by have := HJ10.out; first | omega | exact Nat.le_refl _⟩, ⟨rq_ (Kd.R_mono HO_247001.out (fun _ hk => ⟨hk.1, hk.2.1⟩))⟩, ⟨rq_ (Kd.R_mono HO_253001.out (fun _ hk => ⟨hk.1.1, hk.1.2⟩))⟩, ⟨rq_ (Kd.R_mono HO_260001.out (fun _ hk => ⟨hk.1, hk.2.1⟩))⟩, ⟨bk_ BK233.out⟩, ⟨bk_ BK246.out⟩, ⟨bk_ BK252.out⟩, ⟨bk_ BK259.out⟩, ⟨bq_⟩⟩
              · rw [if_neg c70] at H
                have c70b0 : decide (t267 < 0) = false := decide_eq_false c70
                clear c70
                (first | rw [c70b0] | (simp only [i64_w, i32_w]; rw [c70b0]) | skip)
                replace H := Option.bind_eq_some_iff.mp H
                obtain ⟨t269, A710, H⟩ := H
                replace H : (if t269 = true then (laws_FnExactNotOf.j1 kj10 t245 (t258 != t245) a0_0 l0_1 a0_2 t240 t241 t244 t253 t254 t257) else (laws_FnExactNotOf.j1 kj10 t245 true a0_0 l0_1 a0_2 t240 t241 t244 t253 t254 t257)) = some r := H
                have A71 := Aside0.mk A710
                clear A710
                by_cases c72 : t269 = true
                · subst c72
                  have H1 : (laws_FnExactNotOf.j1 kj10 t245 (t258 != t245) a0_0 l0_1 a0_2 t240 t241 t244 t253 t254 t257) = some r := by rw [if_pos rfl] at H; exact H
                  clear H
                  have H := H1
                  clear H1
                  have H' := Aside0.mk H
                  clear H
                  have hnb73 := NB259_233.out
                  have hnc73 := NB233_259.out
                  have hnb74 := NB259_246.out
                  have hnc74 := NB246_259.out
                  have hnb75 := NB259_252.out
                  have hnc75 := NB252_259.out
                  have hcz76_0 := cq_ BK259.out 0 (.int .i64 t253)
                  have hcz76_1 := cq_ BK259.out 1 (.slice Ao36 t254.length co36)
                  have hcz76_2 := cq_ BK259.out 2 (.int .i64 t257)
                  have hfz76_0 := blk_frozen BK259.out 0
                  have hfz76_1 := blk_frozen BK259.out 1
                  have hfz76_2 := blk_frozen BK259.out 2
                  have hnb77 := NB246_233.out
                  have hnc77 := NB233_246.out
                  have hnb78 := NB246_252.out
                  have hnc78 := NB252_246.out
                  have hcz79_0 := cq_ BK246.out 0 (.int .i64 t240)
                  have hcz79_1 := cq_ BK246.out 1 (.slice Ao22 t241.length co22)
                  have hcz79_2 := cq_ BK246.out 2 (.int .i64 t244)
                  have hfz79_0 := blk_frozen BK246.out 0
                  have hfz79_1 := blk_frozen BK246.out 1
                  have hfz79_2 := blk_frozen BK246.out 2
                  go_wp2_with (first | (go_at_call 16; (with_reducible refine (laws_eqDiagram.calls kj10 t253 _ _ t254 t257 t240 _ _ t241 t244 true _ ?side1 ?side2 ?side3 ?side4 A71.out).mono ?_); (case side1 => repeat (first | exact (Kd.R_reads' HO_260001.out).2.2 | (with_reducible refine Kd.C_alloc ?_ _) | (with_reducible refine Kd.C_drewN ?_ _) | (with_reducible refine Kd.C_drew ?_))); (case side2 => exact (Kd.R_reads' HO_260001.out).2.1); (case side3 => repeat (first | exact (Kd.R_reads' HO_247001.out).2.2 | (with_reducible refine Kd.C_alloc ?_ _) | (with_reducible refine Kd.C_drewN ?_ _) | (with_reducible refine Kd.C_drew ?_))); (case side4 => exact (Kd.R_reads' HO_247001.out).2.1); rintro e w80 ⟨rfl, hb⟩; have n0_ := Aside0.mk (Kd.R_below (rq_ HO_247001.out) hb); have n1_ := Aside0.mk (Kd.R_below (rq_ HO_253001.out) hb); have n2_ := Aside0.mk (Kd.R_below (rq_ HO_260001.out) hb); have n3_ := Aside0.mk (Kd.R_below (rq_ HO264.out) hb); have n4_ := Aside0.mk (blk_below (bk_ BK233.out) hb); have n5_ := Aside0.mk (blk_below (bk_ BK246.out) hb); have n6_ := Aside0.mk (blk_below (bk_ BK252.out) hb); have n7_ := Aside0.mk (blk_below (bk_ BK259.out) hb); have n8_ := Aside0.mk (below_step (bq_) hb); clear HO_247001; clear HO_253001; clear HO_260001; clear HO264; clear BK233; clear BK246; clear BK252; clear BK259; clear HB; have HO_247001 := n0_; have HO_253001 := n1_; have HO_260001 := n2_; have HO264 := n3_; have BK233 := n4_; have BK246 := n5_; have BK252 := n6_; have BK259 := n7_; have HB := n8_; clear n0_ n1_ n2_ n3_ n4_ n5_ n6_ n7_ n8_; (try clear hb); (try clear hb2); (try clear hk); (try clear hi)))
                  go_meet
                  case rel => exact ⟨_, ((t258 != t245)), (by first | rfl | (simp; done) | (simp [*]; done)), H', ⟨by have := HJ10.out; first | omega | exact Nat.le_refl _⟩, ⟨rq_ (Kd.R_mono HO_247001.out (fun _ hk => ⟨hk.1, hk.2.1⟩))⟩, ⟨rq_ (Kd.R_mono HO_253001.out (fun _ hk => ⟨hk.1.1, hk.1.2⟩))⟩, ⟨rq_ (Kd.R_mono HO_260001.out (fun _ hk => ⟨hk.1, hk.2.1⟩))⟩, ⟨bk_ BK233.out⟩, ⟨bk_ BK246.out⟩, ⟨bk_ BK252.out⟩, ⟨bk_ BK259.out⟩, ⟨bq_⟩⟩
                · replace c72 := Bool.eq_false_iff.mpr c72
                  subst c72
                  have H1 : (laws_FnExactNotOf.j1 kj10 t245 true a0_0 l0_1 a0_2 t240 t241 t244 t253 t254 t257) = some r := by rw [if_neg (show ¬ (false = true) by decide)] at H; exact H
                  clear H
                  have H := H1
                  clear H1
                  have H' := Aside0.mk H
                  clear H
                  have hnb81 := NB259_233.out
                  have hnc81 := NB233_259.out
                  have hnb82 := NB259_246.out
                  have hnc82 := NB246_259.out
                  have hnb83 := NB259_252.out
                  have hnc83 := NB252_259.out
                  have hcz84_0 := cq_ BK259.out 0 (.int .i64 t253)
                  have hcz84_1 := cq_ BK259.out 1 (.slice Ao36 t254.length co36)
                  have hcz84_2 := cq_ BK259.out 2 (.int .i64 t257)
                  have hfz84_0 := blk_frozen BK259.out 0
                  have hfz84_1 := blk_frozen BK259.out 1
                  have hfz84_2 := blk_frozen BK259.out 2
                  have hnb85 := NB246_233.out
                  have hnc85 := NB233_246.out
                  have hnb86 := NB246_252.out
                  have hnc86 := NB252_246.out
                  have hcz87_0 := cq_ BK246.out 0 (.int .i64 t240)
                  have hcz87_1 := cq_ BK246.out 1 (.slice Ao22 t241.length co22)
                  have hcz87_2 := cq_ BK246.out 2 (.int .i64 t244)
                  have hfz87_0 := blk_frozen BK246.out 0
                  have hfz87_1 := blk_frozen BK246.out 1
                  have hfz87_2 := blk_frozen BK246.out 2
                  go_wp2_with (first | (go_at_call 16; (with_reducible refine (laws_eqDiagram.calls kj10 t253 _ _ t254 t257 t240 _ _ t241 t244 false _ ?side1 ?side2 ?side3 ?side4 A71.out).mono ?_); (case side1 => repeat (first | exact (Kd.R_reads' HO_260001.out).2.2 | (with_reducible refine Kd.C_alloc ?_ _) | (with_reducible refine Kd.C_drewN ?_ _) | (with_reducible refine Kd.C_drew ?_))); (case side2 => exact (Kd.R_reads' HO_260001.out).2.1); (case side3 => repeat (first | exact (Kd.R_reads' HO_247001.out).2.2 | (with_reducible refine Kd.C_alloc ?_ _) | (with_reducible refine Kd.C_drewN ?_ _) | (with_reducible refine Kd.C_drew ?_))); (case side4 => exact (Kd.R_reads' HO_247001.out).2.1); rintro e w88 ⟨rfl, hb⟩; have n0_ := Aside0.mk (Kd.R_below (rq_ HO_247001.out) hb); have n1_ := Aside0.mk (Kd.R_below (rq_ HO_253001.out) hb); have n2_ := Aside0.mk (Kd.R_below (rq_ HO_260001.out) hb); have n3_ := Aside0.mk (Kd.R_below (rq_ HO264.out) hb); have n4_ := Aside0.mk (blk_below (bk_ BK233.out) hb); have n5_ := Aside0.mk (blk_below (bk_ BK246.out) hb); have n6_ := Aside0.mk (blk_below (bk_ BK252.out) hb); have n7_ := Aside0.mk (blk_below (bk_ BK259.out) hb); have n8_ := Aside0.mk (below_step (bq_) hb); clear HO_247001; clear HO_253001; clear HO_260001; clear HO264; clear BK233; clear BK246; clear BK252; clear BK259; clear HB; have HO_247001 := n0_; have HO_253001 := n1_; have HO_260001 := n2_; have HO264 := n3_; have BK233 := n4_; have BK246 := n5_; have BK252 := n6_; have BK259 := n7_; have HB := n8_; clear n0_ n1_ n2_ n3_ n4_ n5_ n6_ n7_ n8_; (try clear hb); (try clear hb2); (try clear hk); (try clear hi)))
                  go_meet
                  case rel => exact ⟨_, (true), (by first | rfl | (simp; done) | (simp [*]; done)), H', ⟨by have := HJ10.out; first | omega | exact Nat.le_refl _⟩, ⟨rq_ (Kd.R_mono HO_247001.out (fun _ hk => ⟨hk.1, hk.2.1⟩))⟩, ⟨rq_ (Kd.R_mono HO_253001.out (fun _ hk => ⟨hk.1.1, hk.1.2⟩))⟩, ⟨rq_ (Kd.R_mono HO_260001.out (fun _ hk => ⟨hk.1, hk.2.1⟩))⟩, ⟨bk_ BK233.out⟩, ⟨bk_ BK246.out⟩, ⟨bk_ BK252.out⟩, ⟨bk_ BK259.out⟩, ⟨bq_⟩⟩
            case rest =>
              clear HC60
              try clear c1
              try clear c2
              try clear p2
              try clear c3
              try clear c3b0
              try clear c4
              try clear c5
              try clear c6
              try clear c7
              try clear c8
              try clear c12
              try clear c14
              try clear c16
              try clear c20
              try clear c23
              try clear c26
              try clear c27
              try clear c32
              try clear c33
              try clear c34
              try clear c38
              try clear c39
              try clear c40
              try clear c41
              try clear c43
              try clear c44
              try clear c47
              try clear c48
              try clear c49
              try clear c51
              try clear c52
              try clear c55
              try clear c58
              try clear c65
              try clear c66
              try clear c67
              try clear c70
              try clear c70b0
              try clear c72
              try clear c73
              try clear c74
              try clear c75
              try clear c77
              try clear c78
              try clear c81
              try clear c82
              try clear c83
              try clear c85
              try clear c86
              try clear hcz13_0
              try clear hcz13_1
              try clear hcz13_2
              try clear hcz15_0
              try clear hcz15_1
              try clear hcz15_2
              try clear hcz21_0
              try clear hcz21_1
              try clear hcz21_2
              try clear hcz23_0
              try clear hcz23_1
              try clear hcz23_2
              try clear hcz28_0
              try clear hcz28_1
              try clear hcz28_2
              try clear hcz35_0
              try clear hcz35_1
              try clear hcz35_2
              try clear hcz42_0
              try clear hcz42_1
              try clear hcz42_2
              try clear hcz45_0
              try clear hcz45_1
              try clear hcz45_2
              try clear hcz50_0
              try clear hcz50_1
              try clear hcz50_2
              try clear hcz53_0
              try clear hcz53_1
              try clear hcz53_2
              try clear hcz5_0
              try clear hcz5_1
              try clear hcz5_2
              try clear hcz68_0
              try clear hcz68_1
              try clear hcz68_2
              try clear hcz76_0
              try clear hcz76_1
              try clear hcz76_2
              try clear hcz79_0
              try clear hcz79_1
              try clear hcz79_2
              try clear hcz84_0
              try clear hcz84_1
              try clear hcz84_2
              try clear hcz87_0
              try clear hcz87_1
              try clear hcz87_2
              try clear hfz13_0
              try clear hfz13_1
              try clear hfz13_2
              try clear hfz15_0
              try clear hfz15_1
              try clear hfz15_2
              try clear hfz21_0
              try clear hfz21_1
              try clear hfz21_2
              try clear hfz23_0
              try clear hfz23_1
              try clear hfz23_2
              try clear hfz28_0
              try clear hfz28_1
              try clear hfz28_2
              try clear hfz35_0
              try clear hfz35_1
              try clear hfz35_2
              try clear hfz42_0
              try clear hfz42_1
              try clear hfz42_2
              try clear hfz45_0
              try clear hfz45_1
              try clear hfz45_2
              try clear hfz50_0
              try clear hfz50_1
              try clear hfz50_2
              try clear hfz53_0
              try clear hfz53_1
              try clear hfz53_2
              try clear hfz5_0
              try clear hfz5_1
              try clear hfz5_2
              try clear hfz68_0
              try clear hfz68_1
              try clear hfz68_2
              try clear hfz76_0
              try clear hfz76_1
              try clear hfz76_2
              try clear hfz79_0
              try clear hfz79_1
              try clear hfz79_2
              try clear hfz84_0
              try clear hfz84_1
              try clear hfz84_2
              try clear hfz87_0
              try clear hfz87_1
              try clear hfz87_2
              try clear p2
              obtain ⟨kq, x61_59, rfl, HA, HJ59, HO_247001, HO_253001, HO_260001, BK233, BK246, BK252, BK259, HB⟩ := hcut
              have hl253001_59 := (Kd.R_reads' HO_253001.out).1
              rw [hl253001_59] at HO_253001
              (try simp only [hl253001_59])
              (try simp only [hl253001_59] at BK233)
              (try simp only [hl253001_59] at BK246)
              (try simp only [hl253001_59] at BK252)
              (try simp only [hl253001_59] at BK259)
              (try simp only [hl253001_59] at HO_247001)
              (try simp only [hl253001_59] at HO_260001)
              cases kq with
              | zero => exact absurd HA.out (by simp [laws_FnExactNotOf.j1])
              | succ kj59 =>
                have H := HA.out
                clear HA
                simp only [laws_FnExactNotOf.j1] at H
                by_cases c89 : x61_59 = true
                · subst c89
                  have H1 : (some false) = some r := by rw [if_pos rfl] at H; exact H
                  clear H
                  have H := H1
                  clear H1
                  exact absurd (Option.some.inj H).symm (by rw [hr_.out]; simp)
                · replace c89 := Bool.eq_false_iff.mpr c89
                  subst c89
                  have H1 : ((laws_markDiagram.f kj59 t253 t254 t257 1).bind fun bt270 => ((laws_heldDiagram.f kj59 t253 bt270.2 t257 1).bind fun t272 => (if t272 < 0 then (some false) else (if t272 = bt270.1 then ((laws_toDiagram.f kj59 a0_0 l0_1 a0_2).bind fun bt273 => ((impl_NotOf.f kj59 bt273.1 bt273.2.1 bt273.2.2).bind fun bt278 => ((laws_eqDiagram.f kj59 bt278.1 bt278.2.1 bt278.2.2.1 t240 t241 t244).bind fun t285 => (if t285 = true then (laws_FnExactNotOf.j2 kj59 bt270.1 (bt278.2.2.2 != t245) t253 bt270.2 t257) else (laws_FnExactNotOf.j2 kj59 bt270.1 true t253 bt270.2 t257))))) else (some false))))) = some r := by rw [if_neg (show ¬ (false = true) by decide)] at H; exact H
                  clear H
                  have H := H1
                  clear H1
                  replace H := Option.bind_eq_some_iff.mp H
                  obtain ⟨⟨t270, t271⟩, A900, H⟩ := H
                  replace H : ((laws_heldDiagram.f kj59 t253 t271 t257 1).bind fun t272 => (if t272 < 0 then (some false) else (if t272 = t270 then ((laws_toDiagram.f kj59 a0_0 l0_1 a0_2).bind fun bt273 => ((impl_NotOf.f kj59 bt273.1 bt273.2.1 bt273.2.2).bind fun bt278 => ((laws_eqDiagram.f kj59 bt278.1 bt278.2.1 bt278.2.2.1 t240 t241 t244).bind fun t285 => (if t285 = true then (laws_FnExactNotOf.j2 kj59 t270 (bt278.2.2.2 != t245) t253 t271 t257) else (laws_FnExactNotOf.j2 kj59 t270 true t253 t271 t257))))) else (some false)))) = some r := H
                  have A90 := Aside0.mk A900
                  clear A900
                  replace H := Option.bind_eq_some_iff.mp H
                  obtain ⟨t272, A910, H⟩ := H
                  replace H : (if t272 < 0 then (some false) else (if t272 = t270 then ((laws_toDiagram.f kj59 a0_0 l0_1 a0_2).bind fun bt273 => ((impl_NotOf.f kj59 bt273.1 bt273.2.1 bt273.2.2).bind fun bt278 => ((laws_eqDiagram.f kj59 bt278.1 bt278.2.1 bt278.2.2.1 t240 t241 t244).bind fun t285 => (if t285 = true then (laws_FnExactNotOf.j2 kj59 t270 (bt278.2.2.2 != t245) t253 t271 t257) else (laws_FnExactNotOf.j2 kj59 t270 true t253 t271 t257))))) else (some false))) = some r := H
                  have A91 := Aside0.mk A910
                  clear A910
                  by_cases c92 : t272 < 0
                  · rw [if_pos c92] at H
                    have c92b0 : decide (t272 < 0) = true := decide_eq_true c92
                    clear c92
                    exact absurd (Option.some.inj H).symm (by rw [hr_.out]; simp)
                  · rw [if_neg c92] at H
                    have c92b0 : decide (t272 < 0) = false := decide_eq_false c92
                    clear c92
                    by_cases c93 : t272 = t270
                    · rw [if_pos c93] at H
                      have c93b0 : (t272 == t270) = true := beq_iff_eq.mpr c93
                      have c93b1 : (t272 != t270) = false := bne_eq_false_iff_eq.mpr c93
                      clear c93
                      replace H := Option.bind_eq_some_iff.mp H
                      obtain ⟨⟨t273, t274, t277⟩, A940, H⟩ := H
                      replace H : ((impl_NotOf.f kj59 t273 t274 t277).bind fun bt278 => ((laws_eqDiagram.f kj59 bt278.1 bt278.2.1 bt278.2.2.1 t240 t241 t244).bind fun t285 => (if t285 = true then (laws_FnExactNotOf.j2 kj59 t270 (bt278.2.2.2 != t245) t253 t271 t257) else (laws_FnExactNotOf.j2 kj59 t270 true t253 t271 t257)))) = some r := H
                      have A94 := Aside0.mk A940
                      clear A940
                      replace H := Option.bind_eq_some_iff.mp H
                      obtain ⟨⟨t278, t279, t282, t283⟩, A950, H⟩ := H
                      replace H : ((laws_eqDiagram.f kj59 t278 t279 t282 t240 t241 t244).bind fun t285 => (if t285 = true then (laws_FnExactNotOf.j2 kj59 t270 (t283 != t245) t253 t271 t257) else (laws_FnExactNotOf.j2 kj59 t270 true t253 t271 t257))) = some r := H
                      have A95 := Aside0.mk A950
                      clear A950
                      have HC96 := Aside0.mk H
                      clear H
                      have hnb97 := NB259_233.out
                      have hnc97 := NB233_259.out
                      have hnb98 := NB259_246.out
                      have hnc98 := NB246_259.out
                      have hnb99 := NB259_252.out
                      have hnc99 := NB252_259.out
                      have hcz100_0 := cq_ BK259.out 0 (.int .i64 t253)
                      have hcz100_1 := cq_ BK259.out 1 (.slice Ao36 t254.length co36)
                      have hcz100_2 := cq_ BK259.out 2 (.int .i64 t257)
                      have hfz100_0 := blk_frozen BK259.out 0
                      have hfz100_1 := blk_frozen BK259.out 1
                      have hfz100_2 := blk_frozen BK259.out 2
                      go_upto_region 25 with (first | ((with_reducible refine gate_callee (f := 23) rfl ?_); refine goesL_ (some 64) rfl rfl Try.func23 (by kernel_rfl) rfl #[.agg #[.int .i64 t253, .slice Ao36 t254.length co36, .int .i64 t257], .int .i64 1] rfl (by (try simp only [List.map_toArray, List.map_cons, List.map_nil]); first | done | rfl | (simp only [List.length_drop, List.length_take]; rfl)) ?_; (with_reducible refine (laws_markDiagram.calls kj59 t253 (fun k_ => some k_ = (.slice Ao36 t254.length co36 : Value).ownBlock) (.slice Ao36 t254.length co36) t254 t257 1 t270 t271 w _ ?side1 ?side2 A90.out).mono ?_); (case side1 => repeat (first | (with_reducible first | exact HB.out | apply below_alloc | apply pw_below_drewN | apply below_drew1 | refine below_set ?_ GE233.out | refine below_set ?_ GE246.out | refine below_set ?_ GE252.out | refine below_set ?_ GE259.out) | exact HB.out)); (case side2 => exact Kd.R_tight rfl HO_260001.out); rintro e w101 ⟨rfl, hy0, hb, hkp⟩; refine ⟨_, rfl, ?_⟩; have n0_ := Aside0.mk (Kd.R_mono (ok' := fun k_ => some k_ ≠ (.slice Ao29 t268.length co29 : Value).ownBlock ∧ some k_ ≠ (.slice Ao36 t254.length co36 : Value).ownBlock) (Kd.R_keptB (HO_247001.out) hkp (fun k_ hk_ hs_ => (hk_.2) hs_)) (fun k_ hk_ => ⟨hk_.1.1, hk_.1.2⟩)); have n1_ := Aside0.mk (Kd.R_mono (ok' := fun k_ => some k_ ≠ (.slice Ao22 t241.length co22 : Value).ownBlock ∧ some k_ ≠ (.slice Ao36 t254.length co36 : Value).ownBlock) (Kd.R_keptB (HO_253001.out) hkp (fun k_ hk_ hs_ => (hk_.2) hs_)) (fun k_ hk_ => ⟨hk_.1.1, hk_.1.2⟩)); have n2_ := Aside0.mk (Kd.R_reok rfl hy0 (fun k_ e_ => HO_260001.out.1 k_ e_)); have n3_ := Aside0.mk (blk_kept (bk_ BK233.out) hkp (fun hs_ => (fun e_ => (Kd.R_ne HO_260001.out BK233.out (by decide)) e_) hs_)); have n4_ := Aside0.mk (blk_kept (bk_ BK246.out) hkp (fun hs_ => (fun e_ => (Kd.R_ne HO_260001.out BK246.out (by decide)) e_) hs_)); have n5_ := Aside0.mk (blk_kept (bk_ BK252.out) hkp (fun hs_ => (fun e_ => (Kd.R_ne HO_260001.out BK252.out (by decide)) e_) hs_)); have n6_ := Aside0.mk (blk_kept (bk_ BK259.out) hkp (fun hs_ => (fun e_ => (Kd.R_ne HO_260001.out BK259.out (by decide)) e_) hs_)); have n7_ := Aside0.mk (hb); clear HO_247001; clear HO_253001; clear HO_260001; clear BK233; clear BK246; clear BK252; clear BK259; clear HB; have HO_247001 := n0_; have HO_253001 := n1_; have HO_260001 := n2_; have BK233 := n3_; have BK246 := n4_; have BK252 := n5_; have BK259 := n6_; have HB := n7_; clear n0_ n1_ n2_ n3_ n4_ n5_ n6_ n7_; (try clear hb); (try clear hkp); (try clear hy0); have hcz102_0 := cq_ BK259.out 0 (.int .i64 t253); have hcz102_1 := cq_ BK259.out 1 (.slice Ao36 t254.length co36); have hcz102_2 := cq_ BK259.out 2 (.int .i64 t257); have hfz102_0 := blk_frozen BK259.out 0; have hfz102_1 := blk_frozen BK259.out 1; have hfz102_2 := blk_frozen BK259.out 2) | ((with_reducible refine gate_callee (f := 28) rfl ?_); refine goesL_ (some 67) rfl rfl Try.func28 (by kernel_rfl) rfl #[.agg #[.int .i64 t253, .slice Ao36 t271.length co36, .int .i64 t257], .int .i64 1] rfl (by (try simp only [List.map_toArray, List.map_cons, List.map_nil]); first | done | (rw [show t271.length = t254.length from (Kd.R_reads' HO_260001.out).1.symm] <;> rfl) | rfl | (simp only [List.length_drop, List.length_take]; rfl)) ?_; (with_reducible refine (laws_heldDiagram.calls kj59 t253 _ _ t271 t257 1 t272 _ ?side1 ?side2 A91.out).mono ?_); (case side1 => repeat (first | exact (Kd.R_reads' HO_260001.out).2.2 | (with_reducible refine Kd.C_alloc ?_ _) | (with_reducible refine Kd.C_drewN ?_ _) | (with_reducible refine Kd.C_drew ?_))); (case side2 => rw [show t271.length = t254.length from (Kd.R_reads' HO_260001.out).1.symm]; exact (Kd.R_reads' HO_260001.out).2.1); rintro e w103 ⟨rfl, hb⟩; refine ⟨_, rfl, ?_⟩; have n0_ := Aside0.mk (Kd.R_below (rq_ HO_247001.out) hb); have n1_ := Aside0.mk (Kd.R_below (rq_ HO_253001.out) hb); have n2_ := Aside0.mk (Kd.R_below (rq_ HO_260001.out) hb); have n3_ := Aside0.mk (blk_below (bk_ BK233.out) hb); have n4_ := Aside0.mk (blk_below (bk_ BK246.out) hb); have n5_ := Aside0.mk (blk_below (bk_ BK252.out) hb); have n6_ := Aside0.mk (blk_below (bk_ BK259.out) hb); have n7_ := Aside0.mk (below_step (bq_) hb); clear HO_247001; clear HO_253001; clear HO_260001; clear BK233; clear BK246; clear BK252; clear BK259; clear HB; have HO_247001 := n0_; have HO_253001 := n1_; have HO_260001 := n2_; have BK233 := n3_; have BK246 := n4_; have BK252 := n5_; have BK259 := n6_; have HB := n7_; clear n0_ n1_ n2_ n3_ n4_ n5_ n6_ n7_; (try clear hb); (try clear hb2); (try clear hk); (try clear hi); have hnb104 := NB233_246.out; have hnc104 := NB246_233.out; have hnb105 := NB233_252.out; have hnc105 := NB252_233.out; have hcz106_0 := cq_ BK233.out 0 (.int .i64 a0_0); have hcz106_1 := cq_ BK233.out 1 (.slice A0_1 l0_1.length c0_1); have hcz106_2 := cq_ BK233.out 2 (.int .i64 a0_2); have hfz106_0 := blk_frozen BK233.out 0; have hfz106_1 := blk_frozen BK233.out 1; have hfz106_2 := blk_frozen BK233.out 2) | ((with_reducible refine gate_callee (f := 14) rfl ?_); refine goesL_ (some 75) rfl rfl Try.func14 (by kernel_rfl) rfl #[.agg #[.int .i64 a0_0, .slice A0_1 l0_1.length c0_1, .int .i64 a0_2]] rfl (by (try simp only [List.map_toArray, List.map_cons, List.map_nil]); first | done | rfl | (simp only [List.length_drop, List.length_take]; rfl)) ?_; (with_reducible refine (laws_toDiagram.calls kj59 a0_0 _ _ l0_1 a0_2 t273 t274 t277 _ ?side1 ?side2 A94.out).mono ?_); (case side1 => repeat (first | exact (Kd.C_below HR0_1.out HB.out) | (with_reducible refine Kd.C_alloc ?_ _) | (with_reducible refine Kd.C_drewN ?_ _) | (with_reducible refine Kd.C_drew ?_))); (case side2 => exact HC0_1.out); rintro e w107 ⟨v275, rfl, ho0, hb⟩; refine ⟨_, rfl, ?_⟩; have n0_ := Aside0.mk (Kd.R_elder' (rq_ HO_247001.out) (Kd.R_base ho0) hb); have n1_ := Aside0.mk (Kd.R_elder' (rq_ HO_253001.out) (Kd.R_base ho0) hb); have n2_ := Aside0.mk (Kd.R_elder' (rq_ HO_260001.out) (Kd.R_base ho0) hb); have n3_ := Aside0.mk (Kd.R_lower (Kd.R_new' (Kd.R_new' (Kd.R_new' ho0 (Kd.R_lt (rq_ HO_247001.out))) (Kd.R_lt (rq_ HO_253001.out))) (Kd.R_lt (rq_ HO_260001.out))) (below_size (bq_))); have n4_ := Aside0.mk (blk_below (bk_ BK233.out) hb); have n5_ := Aside0.mk (blk_below (bk_ BK246.out) hb); have n6_ := Aside0.mk (blk_below (bk_ BK252.out) hb); have n7_ := Aside0.mk (blk_below (bk_ BK259.out) hb); have n8_ := Aside0.mk (below_step (bq_) hb); clear HO_247001; clear HO_253001; clear HO_260001; clear BK233; clear BK246; clear BK252; clear BK259; clear HB; have HO_247001 := n0_; have HO_253001 := n1_; have HO_260001 := n2_; have HO276 := n3_; have BK233 := n4_; have BK246 := n5_; have BK252 := n6_; have BK259 := n7_; have HB := n8_; clear n0_ n1_ n2_ n3_ n4_ n5_ n6_ n7_ n8_; (try clear hb); (try clear hb2); (try clear hk); (try clear hi); (try clear ho0); obtain ⟨Ao108, co108, eo108⟩ := Kd.R_slice HO276.out; subst eo108) | ((with_reducible refine gate_callee (f := 27) rfl ?_); refine goesL_ (some 76) rfl rfl Try.func27 (by kernel_rfl) rfl #[.agg #[.int .i64 t273, .slice Ao108 t274.length co108, .int .i64 t277]] rfl (by (try simp only [List.map_toArray, List.map_cons, List.map_nil]); first | done | rfl | (simp only [List.length_drop, List.length_take]; rfl)) ?_; (with_reducible refine (impl_NotOf.calls kj59 t273 _ _ t274 t277 t278 t279 t282 t283 _ ?side1 ?side2 A95.out).mono ?_); (case side1 => repeat (first | exact (Kd.R_reads' HO276.out).2.2 | (with_reducible refine Kd.C_alloc ?_ _) | (with_reducible refine Kd.C_drewN ?_ _) | (with_reducible refine Kd.C_drew ?_))); (case side2 => exact (Kd.R_reads' HO276.out).2.1); rintro e w109 ⟨v280, rfl, ho0, hb⟩; refine ⟨_, rfl, ?_⟩; have n0_ := Aside0.mk (Kd.R_elder' (rq_ HO_247001.out) (Kd.R_base ho0) hb); have n1_ := Aside0.mk (Kd.R_elder' (rq_ HO_253001.out) (Kd.R_base ho0) hb); have n2_ := Aside0.mk (Kd.R_elder' (rq_ HO_260001.out) (Kd.R_base ho0) hb); have n3_ := Aside0.mk (Kd.R_elder' (rq_ HO276.out) (Kd.R_base ho0) hb); have n4_ := Aside0.mk (Kd.R_lower (Kd.R_new' (Kd.R_new' (Kd.R_new' (Kd.R_new' ho0 (Kd.R_lt (rq_ HO_247001.out))) (Kd.R_lt (rq_ HO_253001.out))) (Kd.R_lt (rq_ HO_260001.out))) (Kd.R_lt (rq_ HO276.out))) (below_size (bq_))); have n5_ := Aside0.mk (blk_below (bk_ BK233.out) hb); have n6_ := Aside0.mk (blk_below (bk_ BK246.out) hb); have n7_ := Aside0.mk (blk_below (bk_ BK252.out) hb); have n8_ := Aside0.mk (blk_below (bk_ BK259.out) hb); have n9_ := Aside0.mk (below_step (bq_) hb); clear HO_247001; clear HO_253001; clear HO_260001; clear HO276; clear BK233; clear BK246; clear BK252; clear BK259; clear HB; have HO_247001 := n0_; have HO_253001 := n1_; have HO_260001 := n2_; have HO276 := n3_; have HO281 := n4_; have BK233 := n5_; have BK246 := n6_; have BK252 := n7_; have BK259 := n8_; have HB := n9_; clear n0_ n1_ n2_ n3_ n4_ n5_ n6_ n7_ n8_ n9_; (try clear hb); (try clear hb2); (try clear hk); (try clear hi); (try clear ho0)) | ((with_reducible refine gate_dst (N := 12) rfl ?_); refine boxq_ (N := 12) (cs := #[.int .i64 0, .slice none 0 0, .int .i64 0]) (t := 30) ?_; intro gb284 hg w110 hbox hb; have n0_ := Aside0.mk (Kd.R_below (rq_ HO_247001.out) hb); have n1_ := Aside0.mk (Kd.R_below (rq_ HO_253001.out) hb); have n2_ := Aside0.mk (Kd.R_below (rq_ HO_260001.out) hb); have n3_ := Aside0.mk (Kd.R_below (rq_ HO276.out) hb); have n4_ := Aside0.mk (Kd.R_below (rq_ HO281.out) hb); have n5_ := Aside0.mk (blk_below (bk_ BK233.out) hb); have n6_ := Aside0.mk (blk_below (bk_ BK246.out) hb); have n7_ := Aside0.mk (blk_below (bk_ BK252.out) hb); have n8_ := Aside0.mk (blk_below (bk_ BK259.out) hb); have n9_ := Aside0.mk (below_step (bq_) hb); have n10_ := Aside0.mk (hbox); have n11_ := Aside0.mk ((by rw [hg]; exact (below_size (bq_)) : w.heap.size ≤ gb284)); have n12_ := Aside0.mk ((by rw [hg]; exact (below_size (bq_)) : w.heap.size ≤ gb284)); have n13_ := Aside0.mk ((by rw [hg]; exact Nat.ne_of_lt (blk_lt (bk_ BK233.out)) : gb233 ≠ gb284)); have n14_ := Aside0.mk ((by rw [hg]; exact Nat.ne_of_gt (blk_lt (bk_ BK233.out)) : gb284 ≠ gb233)); have n15_ := Aside0.mk ((by rw [hg]; exact Nat.ne_of_lt (blk_lt (bk_ BK246.out)) : gb246 ≠ gb284)); have n16_ := Aside0.mk ((by rw [hg]; exact Nat.ne_of_gt (blk_lt (bk_ BK246.out)) : gb284 ≠ gb246)); have n17_ := Aside0.mk ((by rw [hg]; exact Nat.ne_of_lt (blk_lt (bk_ BK252.out)) : gb252 ≠ gb284)); have n18_ := Aside0.mk ((by rw [hg]; exact Nat.ne_of_gt (blk_lt (bk_ BK252.out)) : gb284 ≠ gb252)); have n19_ := Aside0.mk ((by rw [hg]; exact Nat.ne_of_lt (blk_lt (bk_ BK259.out)) : gb259 ≠ gb284)); have n20_ := Aside0.mk ((by rw [hg]; exact Nat.ne_of_gt (blk_lt (bk_ BK259.out)) : gb284 ≠ gb259)); clear HO_247001; clear HO_253001; clear HO_260001; clear HO276; clear HO281; clear BK233; clear BK246; clear BK252; clear BK259; clear HB; have HO_247001 := n0_; have HO_253001 := n1_; have HO_260001 := n2_; have HO276 := n3_; have HO281 := n4_; have BK233 := n5_; have BK246 := n6_; have BK252 := n7_; have BK259 := n8_; have HB := n9_; have BK284 := n10_; have GW284 := n11_; have GE284 := n12_; have NB233_284 := n13_; have NB284_233 := n14_; have NB246_284 := n15_; have NB284_246 := n16_; have NB252_284 := n17_; have NB284_252 := n18_; have NB259_284 := n19_; have NB284_259 := n20_; clear n0_ n1_ n2_ n3_ n4_ n5_ n6_ n7_ n8_ n9_ n10_ n11_ n12_ n13_ n14_ n15_ n16_ n17_ n18_ n19_ n20_; clear hb hbox hg; have hnb111 := NB284_233.out; have hnc111 := NB233_284.out; have hnb112 := NB284_246.out; have hnc112 := NB246_284.out; have hnb113 := NB284_252.out; have hnc113 := NB252_284.out; have hnb114 := NB284_259.out; have hnc114 := NB259_284.out; have hcz115_0 := cq_ BK284.out 0 (.int .i64 0); have hcz115_1 := cq_ BK284.out 1 (.slice none 0 0); have hcz115_2 := cq_ BK284.out 2 (.int .i64 0); have hfz115_0 := blk_frozen BK284.out 0; have hfz115_1 := blk_frozen BK284.out 1; have hfz115_2 := blk_frozen BK284.out 2; obtain ⟨Ao116, co116, eo116⟩ := Kd.R_slice HO281.out; subst eo116))
                      (try simp only [Act.put, List.setIfInBounds_toArray, List.set_cons_zero, List.set_cons_succ])
                      go_cut [87] (fun v87 wc => ∃ (kq : Nat) (x87_95 : Bool), v87 = .bool x87_95 ∧ Aside0 (laws_FnExactNotOf.j2 kq t270 x87_95 t253 t271 t257 = some r) ∧ Aside0 (kq ≤ kj59) ∧ Aside0 (Kd.R k75 75 wc w.heap.size (fun k_ => some k_ ≠ ((.slice Ao29 t268.length co29) : Value).ownBlock ∧ some k_ ≠ ((.slice Ao36 t254.length co36) : Value).ownBlock ∧ some k_ ≠ ((.slice Ao116 t279.length co116) : Value).ownBlock) (.slice Ao22 t241.length co22) t241) ∧ Aside0 (Kd.R k75 75 wc w.heap.size (fun k_ => some k_ ≠ ((.slice Ao22 t241.length co22) : Value).ownBlock ∧ some k_ ≠ ((.slice Ao36 t254.length co36) : Value).ownBlock ∧ some k_ ≠ ((.slice Ao116 t279.length co116) : Value).ownBlock) (.slice Ao29 t268.length co29) t268) ∧ Aside0 (Kd.R k75 75 wc w.heap.size (fun k_ => some k_ ≠ ((.slice Ao22 t241.length co22) : Value).ownBlock ∧ some k_ ≠ ((.slice Ao29 t268.length co29) : Value).ownBlock ∧ some k_ ≠ ((.slice Ao116 t279.length co116) : Value).ownBlock) (.slice Ao36 t254.length co36) t271) ∧ Aside0 (Kd.R k75 75 wc w.heap.size (fun k_ => some k_ ≠ ((.slice Ao22 t241.length co22) : Value).ownBlock ∧ some k_ ≠ ((.slice Ao29 t268.length co29) : Value).ownBlock ∧ some k_ ≠ ((.slice Ao36 t254.length co36) : Value).ownBlock) (.slice Ao116 t279.length co116) t279) ∧ Aside0 (wc.heap[gb233]? = some (.cells #[.int .i64 a0_0, (.slice A0_1 l0_1.length c0_1), .int .i64 a0_2] 24 (0, 0))) ∧ Aside0 (wc.heap[gb246]? = some (.cells #[.int .i64 t240, (.slice Ao22 t241.length co22), .int .i64 t244] 30 (0, 0))) ∧ Aside0 (wc.heap[gb252]? = some (.cells #[.int .i64 t247, (.slice Ao29 t268.length co29), .int .i64 t251] 30 (0, 0))) ∧ Aside0 (wc.heap[gb259]? = some (.cells #[.int .i64 t253, (.slice Ao36 t254.length co36), .int .i64 t257] 30 (0, 0))) ∧ Aside0 (wc.heap[gb284]? = some (.cells #[.int .i64 t278, (.slice Ao116 t279.length co116), .int .i64 t282] 30 (0, 0))) ∧ Aside0 (Below w.heap.size w wc))
                      case first =>
                        have H := HC96.out
                        clear HC96
                        replace H := Option.bind_eq_some_iff.mp H
                        obtain ⟨t285, A1170, H⟩ := H
                        replace H : (if t285 = true then (laws_FnExactNotOf.j2 kj59 t270 (t283 != t245) t253 t271 t257) else (laws_FnExactNotOf.j2 kj59 t270 true t253 t271 t257)) = some r := H
                        have A117 := Aside0.mk A1170
                        clear A1170
                        by_cases c118 : t285 = true
                        · subst c118
                          have H1 : (laws_FnExactNotOf.j2 kj59 t270 (t283 != t245) t253 t271 t257) = some r := by rw [if_pos rfl] at H; exact H
                          clear H
                          have H := H1
                          clear H1
                          have H' := Aside0.mk H
                          clear H
                          have hnb119 := NB284_233.out
                          have hnc119 := NB233_284.out
                          have hnb120 := NB284_246.out
                          have hnc120 := NB246_284.out
                          have hnb121 := NB284_252.out
                          have hnc121 := NB252_284.out
                          have hnb122 := NB284_259.out
                          have hnc122 := NB259_284.out
                          have hcz123_0 := cq_ BK284.out 0 (.int .i64 0)
                          have hcz123_1 := cq_ BK284.out 1 (.slice none 0 0)
                          have hcz123_2 := cq_ BK284.out 2 (.int .i64 0)
                          have hfz123_0 := blk_frozen BK284.out 0
                          have hfz123_1 := blk_frozen BK284.out 1
                          have hfz123_2 := blk_frozen BK284.out 2
                          have hnb124 := NB246_233.out
                          have hnc124 := NB233_246.out
                          have hnb125 := NB246_252.out
                          have hnc125 := NB252_246.out
                          have hnb126 := NB246_259.out
                          have hnc126 := NB259_246.out
                          have hcz127_0 := cq_ BK246.out 0 (.int .i64 t240)
                          have hcz127_1 := cq_ BK246.out 1 (.slice Ao22 t241.length co22)
                          have hcz127_2 := cq_ BK246.out 2 (.int .i64 t244)
                          have hfz127_0 := blk_frozen BK246.out 0
                          have hfz127_1 := blk_frozen BK246.out 1
                          have hfz127_2 := blk_frozen BK246.out 2
                          go_wp2_with (first | ((with_reducible refine gate_callee (f := 16) rfl ?_); refine goesL_ (some 81) rfl rfl Try.func16 (by kernel_rfl) rfl #[.agg #[.int .i64 t278, .slice Ao116 t279.length co116, .int .i64 t282], .agg #[.int .i64 t240, .slice Ao22 t241.length co22, .int .i64 t244]] rfl (by (try simp only [List.map_toArray, List.map_cons, List.map_nil]); first | done | rfl | (simp only [List.length_drop, List.length_take]; rfl)) ?_; (with_reducible refine (laws_eqDiagram.calls kj59 t278 _ _ t279 t282 t240 _ _ t241 t244 true _ ?side1 ?side2 ?side3 ?side4 A117.out).mono ?_); (case side1 => refine (Kd.R_reads' (e := 75) (base := w.heap.size) (ok := fun k_ => ((((True ∧ some k_ ≠ (.slice Ao22 t241.length co22 : Value).ownBlock) ∧ some k_ ≠ (.slice Ao29 t268.length co29 : Value).ownBlock) ∧ some k_ ≠ (.slice Ao36 t254.length co36 : Value).ownBlock) ∧ some k_ ≠ (.slice Ao108 t274.length co108 : Value).ownBlock)) (n := t279.length) (c := co116) ?_).2.2; exact (rq_ ((Kd.R_mono (Kd.R_far (p := ⟨gb284, 2, none⟩) (Kd.R_far (p := ⟨gb284, 1, none⟩) (Kd.R_far (p := ⟨gb284, 0, none⟩) (Kd.R_types HO281.out BK284.out (by decide)) (fun _ hk => hk.2) (.int .i64 t278)) (fun _ hk => hk.2) (.slice Ao116 t279.length co116)) (fun _ hk => hk.2) (.int .i64 t282)) (fun _ h_ => h_.1))))); (case side2 => exact (Kd.R_reads' HO281.out).2.1); (case side3 => refine (Kd.R_reads' (e := 75) (base := w.heap.size) (ok := fun k_ => (((some k_ ≠ (.slice Ao29 t268.length co29 : Value).ownBlock ∧ some k_ ≠ (.slice Ao36 t254.length co36 : Value).ownBlock) ∧ some k_ ≠ (.slice Ao108 t274.length co108 : Value).ownBlock) ∧ some k_ ≠ (.slice Ao116 t279.length co116 : Value).ownBlock)) (n := t241.length) (c := co22) ?_).2.2; exact (rq_ ((Kd.R_mono (Kd.R_far (p := ⟨gb284, 2, none⟩) (Kd.R_far (p := ⟨gb284, 1, none⟩) (Kd.R_far (p := ⟨gb284, 0, none⟩) (Kd.R_types HO_247001.out BK284.out (by decide)) (fun _ hk => hk.2) (.int .i64 t278)) (fun _ hk => hk.2) (.slice Ao116 t279.length co116)) (fun _ hk => hk.2) (.int .i64 t282)) (fun _ h_ => h_.1))))); (case side4 => exact (Kd.R_reads' HO_247001.out).2.1); rintro e w128 ⟨rfl, hb⟩; refine ⟨_, rfl, ?_⟩; have n0_ := Aside0.mk (Kd.R_below (rq_ ((Kd.R_mono (Kd.R_far (p := ⟨gb284, 2, none⟩) (Kd.R_far (p := ⟨gb284, 1, none⟩) (Kd.R_far (p := ⟨gb284, 0, none⟩) (Kd.R_types HO_247001.out BK284.out (by decide)) (fun _ hk => hk.2) (.int .i64 t278)) (fun _ hk => hk.2) (.slice Ao116 t279.length co116)) (fun _ hk => hk.2) (.int .i64 t282)) (fun _ h_ => h_.1)))) hb); have n1_ := Aside0.mk (Kd.R_below (rq_ ((Kd.R_mono (Kd.R_far (p := ⟨gb284, 2, none⟩) (Kd.R_far (p := ⟨gb284, 1, none⟩) (Kd.R_far (p := ⟨gb284, 0, none⟩) (Kd.R_types HO_253001.out BK284.out (by decide)) (fun _ hk => hk.2) (.int .i64 t278)) (fun _ hk => hk.2) (.slice Ao116 t279.length co116)) (fun _ hk => hk.2) (.int .i64 t282)) (fun _ h_ => h_.1)))) hb); have n2_ := Aside0.mk (Kd.R_below (rq_ ((Kd.R_mono (Kd.R_far (p := ⟨gb284, 2, none⟩) (Kd.R_far (p := ⟨gb284, 1, none⟩) (Kd.R_far (p := ⟨gb284, 0, none⟩) (Kd.R_types HO_260001.out BK284.out (by decide)) (fun _ hk => hk.2) (.int .i64 t278)) (fun _ hk => hk.2) (.slice Ao116 t279.length co116)) (fun _ hk => hk.2) (.int .i64 t282)) (fun _ h_ => h_.1)))) hb); have n3_ := Aside0.mk (Kd.R_below (rq_ ((Kd.R_mono (Kd.R_far (p := ⟨gb284, 2, none⟩) (Kd.R_far (p := ⟨gb284, 1, none⟩) (Kd.R_far (p := ⟨gb284, 0, none⟩) (Kd.R_types HO276.out BK284.out (by decide)) (fun _ hk => hk.2) (.int .i64 t278)) (fun _ hk => hk.2) (.slice Ao116 t279.length co116)) (fun _ hk => hk.2) (.int .i64 t282)) (fun _ h_ => h_.1)))) hb); have n4_ := Aside0.mk (Kd.R_below (rq_ ((Kd.R_mono (Kd.R_far (p := ⟨gb284, 2, none⟩) (Kd.R_far (p := ⟨gb284, 1, none⟩) (Kd.R_far (p := ⟨gb284, 0, none⟩) (Kd.R_types HO281.out BK284.out (by decide)) (fun _ hk => hk.2) (.int .i64 t278)) (fun _ hk => hk.2) (.slice Ao116 t279.length co116)) (fun _ hk => hk.2) (.int .i64 t282)) (fun _ h_ => h_.1)))) hb); have n5_ := Aside0.mk (blk_below (g := gb233) (o := .cells #[.int .i64 a0_0, .slice A0_1 l0_1.length c0_1, .int .i64 a0_2] 24 (0, 0)) (by (with_reducible repeat (first | refine blk_drewN ?_ _ | refine blk_drew ?_ | refine blk_alloc ?_ _)); refine blk_far ?_ NB233_284.out _; (with_reducible repeat (first | refine blk_drewN ?_ _ | refine blk_drew ?_ | refine blk_alloc ?_ _)); refine blk_far ?_ NB233_284.out _; (with_reducible repeat (first | refine blk_drewN ?_ _ | refine blk_drew ?_ | refine blk_alloc ?_ _)); refine blk_far ?_ NB233_284.out _; (with_reducible repeat (first | refine blk_drewN ?_ _ | refine blk_drew ?_ | refine blk_alloc ?_ _)); exact BK233.out) hb); have n6_ := Aside0.mk (blk_below (g := gb246) (o := .cells #[.int .i64 t240, .slice Ao22 t241.length co22, .int .i64 t244] 30 (0, 0)) (by (with_reducible repeat (first | refine blk_drewN ?_ _ | refine blk_drew ?_ | refine blk_alloc ?_ _)); refine blk_far ?_ NB246_284.out _; (with_reducible repeat (first | refine blk_drewN ?_ _ | refine blk_drew ?_ | refine blk_alloc ?_ _)); refine blk_far ?_ NB246_284.out _; (with_reducible repeat (first | refine blk_drewN ?_ _ | refine blk_drew ?_ | refine blk_alloc ?_ _)); refine blk_far ?_ NB246_284.out _; (with_reducible repeat (first | refine blk_drewN ?_ _ | refine blk_drew ?_ | refine blk_alloc ?_ _)); exact BK246.out) hb); have n7_ := Aside0.mk (blk_below (g := gb252) (o := .cells #[.int .i64 t247, .slice Ao29 t268.length co29, .int .i64 t251] 30 (0, 0)) (by (with_reducible repeat (first | refine blk_drewN ?_ _ | refine blk_drew ?_ | refine blk_alloc ?_ _)); refine blk_far ?_ NB252_284.out _; (with_reducible repeat (first | refine blk_drewN ?_ _ | refine blk_drew ?_ | refine blk_alloc ?_ _)); refine blk_far ?_ NB252_284.out _; (with_reducible repeat (first | refine blk_drewN ?_ _ | refine blk_drew ?_ | refine blk_alloc ?_ _)); refine blk_far ?_ NB252_284.out _; (with_reducible repeat (first | refine blk_drewN ?_ _ | refine blk_drew ?_ | refine blk_alloc ?_ _)); exact BK252.out) hb); have n8_ := Aside0.mk (blk_below (g := gb259) (o := .cells #[.int .i64 t253, .slice Ao36 t254.length co36, .int .i64 t257] 30 (0, 0)) (by (with_reducible repeat (first | refine blk_drewN ?_ _ | refine blk_drew ?_ | refine blk_alloc ?_ _)); refine blk_far ?_ NB259_284.out _; (with_reducible repeat (first | refine blk_drewN ?_ _ | refine blk_drew ?_ | refine blk_alloc ?_ _)); refine blk_far ?_ NB259_284.out _; (with_reducible repeat (first | refine blk_drewN ?_ _ | refine blk_drew ?_ | refine blk_alloc ?_ _)); refine blk_far ?_ NB259_284.out _; (with_reducible repeat (first | refine blk_drewN ?_ _ | refine blk_drew ?_ | refine blk_alloc ?_ _)); exact BK259.out) hb); have n9_ := Aside0.mk (blk_below (g := gb284) (o := .cells #[.int .i64 t278, .slice Ao116 t279.length co116, .int .i64 t282] 30 (0, 0)) (by (with_reducible repeat (first | refine blk_drewN ?_ _ | refine blk_drew ?_ | refine blk_alloc ?_ _)); refine blk_put (cs := #[.int .i64 t278, .slice Ao116 t279.length co116, .int .i64 0]) ?_ 2 _ rfl; (with_reducible repeat (first | refine blk_drewN ?_ _ | refine blk_drew ?_ | refine blk_alloc ?_ _)); refine blk_put (cs := #[.int .i64 t278, .slice none 0 0, .int .i64 0]) ?_ 1 _ rfl; (with_reducible repeat (first | refine blk_drewN ?_ _ | refine blk_drew ?_ | refine blk_alloc ?_ _)); refine blk_put (cs := #[.int .i64 0, .slice none 0 0, .int .i64 0]) ?_ 0 _ rfl; (with_reducible repeat (first | refine blk_drewN ?_ _ | refine blk_drew ?_ | refine blk_alloc ?_ _)); exact BK284.out) hb); have n10_ := Aside0.mk (below_step (bq_) hb); clear HO_247001; clear HO_253001; clear HO_260001; clear HO276; clear HO281; clear BK233; clear BK246; clear BK252; clear BK259; clear BK284; clear HB; have HO_247001 := n0_; have HO_253001 := n1_; have HO_260001 := n2_; have HO276 := n3_; have HO281 := n4_; have BK233 := n5_; have BK246 := n6_; have BK252 := n7_; have BK259 := n8_; have BK284 := n9_; have HB := n10_; clear n0_ n1_ n2_ n3_ n4_ n5_ n6_ n7_ n8_ n9_ n10_; (try clear hb); (try clear hb2); (try clear hk); (try clear hi)))
                          go_meet
                          case rel => exact ⟨_, ((t283 != t245)), (by first | rfl | (simp; done) | (simp [*]; done)), H', ⟨by have := HJ10.out; have := HJ59.out; first | omega | exact Nat.le_refl _⟩, ⟨by (try simp only [hl253001_59]); (with_reducible repeat (first | apply Kd.R_alloc | apply Kd.R_drewN | apply Kd.R_drew)); exact Kd.R_mono HO_247001.out (fun _ hk => ⟨hk.1.1.1, ⟨hk.1.1.2, hk.2⟩⟩)⟩, ⟨by (try simp only [hl253001_59]); (with_reducible repeat (first | apply Kd.R_alloc | apply Kd.R_drewN | apply Kd.R_drew)); exact Kd.R_mono HO_253001.out (fun _ hk => ⟨hk.1.1.1, ⟨hk.1.1.2, hk.2⟩⟩)⟩, ⟨by (try simp only [hl253001_59]); (with_reducible repeat (first | apply Kd.R_alloc | apply Kd.R_drewN | apply Kd.R_drew)); exact Kd.R_mono HO_260001.out (fun _ hk => ⟨hk.1.1.1, ⟨hk.1.1.2, hk.2⟩⟩)⟩, ⟨by (try simp only [hl253001_59]); (with_reducible repeat (first | apply Kd.R_alloc | apply Kd.R_drewN | apply Kd.R_drew)); exact Kd.R_mono HO281.out (fun _ hk => ⟨hk.1.1.1.2, ⟨hk.1.1.2, hk.1.2⟩⟩)⟩, ⟨by (try simp only [hl253001_59]); (with_reducible repeat (first | refine blk_drewN ?_ _ | refine blk_drew ?_ | refine blk_alloc ?_ _)); exact BK233.out⟩, ⟨by (try simp only [hl253001_59]); (with_reducible repeat (first | refine blk_drewN ?_ _ | refine blk_drew ?_ | refine blk_alloc ?_ _)); exact BK246.out⟩, ⟨by (try simp only [hl253001_59]); (with_reducible repeat (first | refine blk_drewN ?_ _ | refine blk_drew ?_ | refine blk_alloc ?_ _)); exact BK252.out⟩, ⟨by (try simp only [hl253001_59]); (with_reducible repeat (first | refine blk_drewN ?_ _ | refine blk_drew ?_ | refine blk_alloc ?_ _)); exact BK259.out⟩, ⟨by (try simp only [hl253001_59]); (with_reducible repeat (first | refine blk_drewN ?_ _ | refine blk_drew ?_ | refine blk_alloc ?_ _)); exact BK284.out⟩, ⟨bq_⟩⟩
                        · replace c118 := Bool.eq_false_iff.mpr c118
                          subst c118
                          have H1 : (laws_FnExactNotOf.j2 kj59 t270 true t253 t271 t257) = some r := by rw [if_neg (show ¬ (false = true) by decide)] at H; exact H
                          clear H
                          have H := H1
                          clear H1
                          have H' := Aside0.mk H
                          clear H
                          have hnb129 := NB284_233.out
                          have hnc129 := NB233_284.out
                          have hnb130 := NB284_246.out
                          have hnc130 := NB246_284.out
                          have hnb131 := NB284_252.out
                          have hnc131 := NB252_284.out
                          have hnb132 := NB284_259.out
                          have hnc132 := NB259_284.out
                          have hcz133_0 := cq_ BK284.out 0 (.int .i64 0)
                          have hcz133_1 := cq_ BK284.out 1 (.slice none 0 0)
                          have hcz133_2 := cq_ BK284.out 2 (.int .i64 0)
                          have hfz133_0 := blk_frozen BK284.out 0
                          have hfz133_1 := blk_frozen BK284.out 1
                          have hfz133_2 := blk_frozen BK284.out 2
                          have hnb134 := NB246_233.out
                          have hnc134 := NB233_246.out
                          have hnb135 := NB246_252.out
                          have hnc135 := NB252_246.out
                          have hnb136 := NB246_259.out
                          have hnc136 := NB259_246.out
                          have hcz137_0 := cq_ BK246.out 0 (.int .i64 t240)
                          have hcz137_1 := cq_ BK246.out 1 (.slice Ao22 t241.length co22)
                          have hcz137_2 := cq_ BK246.out 2 (.int .i64 t244)
                          have hfz137_0 := blk_frozen BK246.out 0
                          have hfz137_1 := blk_frozen BK246.out 1
                          have hfz137_2 := blk_frozen BK246.out 2
                          go_wp2_with (first | ((with_reducible refine gate_callee (f := 16) rfl ?_); refine goesL_ (some 81) rfl rfl Try.func16 (by kernel_rfl) rfl #[.agg #[.int .i64 t278, .slice Ao116 t279.length co116, .int .i64 t282], .agg #[.int .i64 t240, .slice Ao22 t241.length co22, .int .i64 t244]] rfl (by (try simp only [List.map_toArray, List.map_cons, List.map_nil]); first | done | rfl | (simp only [List.length_drop, List.length_take]; rfl)) ?_; (with_reducible refine (laws_eqDiagram.calls kj59 t278 _ _ t279 t282 t240 _ _ t241 t244 false _ ?side1 ?side2 ?side3 ?side4 A117.out).mono ?_); (case side1 => refine (Kd.R_reads' (e := 75) (base := w.heap.size) (ok := fun k_ => ((((True ∧ some k_ ≠ (.slice Ao22 t241.length co22 : Value).ownBlock) ∧ some k_ ≠ (.slice Ao29 t268.length co29 : Value).ownBlock) ∧ some k_ ≠ (.slice Ao36 t254.length co36 : Value).ownBlock) ∧ some k_ ≠ (.slice Ao108 t274.length co108 : Value).ownBlock)) (n := t279.length) (c := co116) ?_).2.2; exact (rq_ ((Kd.R_mono (Kd.R_far (p := ⟨gb284, 2, none⟩) (Kd.R_far (p := ⟨gb284, 1, none⟩) (Kd.R_far (p := ⟨gb284, 0, none⟩) (Kd.R_types HO281.out BK284.out (by decide)) (fun _ hk => hk.2) (.int .i64 t278)) (fun _ hk => hk.2) (.slice Ao116 t279.length co116)) (fun _ hk => hk.2) (.int .i64 t282)) (fun _ h_ => h_.1))))); (case side2 => exact (Kd.R_reads' HO281.out).2.1); (case side3 => refine (Kd.R_reads' (e := 75) (base := w.heap.size) (ok := fun k_ => (((some k_ ≠ (.slice Ao29 t268.length co29 : Value).ownBlock ∧ some k_ ≠ (.slice Ao36 t254.length co36 : Value).ownBlock) ∧ some k_ ≠ (.slice Ao108 t274.length co108 : Value).ownBlock) ∧ some k_ ≠ (.slice Ao116 t279.length co116 : Value).ownBlock)) (n := t241.length) (c := co22) ?_).2.2; exact (rq_ ((Kd.R_mono (Kd.R_far (p := ⟨gb284, 2, none⟩) (Kd.R_far (p := ⟨gb284, 1, none⟩) (Kd.R_far (p := ⟨gb284, 0, none⟩) (Kd.R_types HO_247001.out BK284.out (by decide)) (fun _ hk => hk.2) (.int .i64 t278)) (fun _ hk => hk.2) (.slice Ao116 t279.length co116)) (fun _ hk => hk.2) (.int .i64 t282)) (fun _ h_ => h_.1))))); (case side4 => exact (Kd.R_reads' HO_247001.out).2.1); rintro e w138 ⟨rfl, hb⟩; refine ⟨_, rfl, ?_⟩; have n0_ := Aside0.mk (Kd.R_below (rq_ ((Kd.R_mono (Kd.R_far (p := ⟨gb284, 2, none⟩) (Kd.R_far (p := ⟨gb284, 1, none⟩) (Kd.R_far (p := ⟨gb284, 0, none⟩) (Kd.R_types HO_247001.out BK284.out (by decide)) (fun _ hk => hk.2) (.int .i64 t278)) (fun _ hk => hk.2) (.slice Ao116 t279.length co116)) (fun _ hk => hk.2) (.int .i64 t282)) (fun _ h_ => h_.1)))) hb); have n1_ := Aside0.mk (Kd.R_below (rq_ ((Kd.R_mono (Kd.R_far (p := ⟨gb284, 2, none⟩) (Kd.R_far (p := ⟨gb284, 1, none⟩) (Kd.R_far (p := ⟨gb284, 0, none⟩) (Kd.R_types HO_253001.out BK284.out (by decide)) (fun _ hk => hk.2) (.int .i64 t278)) (fun _ hk => hk.2) (.slice Ao116 t279.length co116)) (fun _ hk => hk.2) (.int .i64 t282)) (fun _ h_ => h_.1)))) hb); have n2_ := Aside0.mk (Kd.R_below (rq_ ((Kd.R_mono (Kd.R_far (p := ⟨gb284, 2, none⟩) (Kd.R_far (p := ⟨gb284, 1, none⟩) (Kd.R_far (p := ⟨gb284, 0, none⟩) (Kd.R_types HO_260001.out BK284.out (by decide)) (fun _ hk => hk.2) (.int .i64 t278)) (fun _ hk => hk.2) (.slice Ao116 t279.length co116)) (fun _ hk => hk.2) (.int .i64 t282)) (fun _ h_ => h_.1)))) hb); have n3_ := Aside0.mk (Kd.R_below (rq_ ((Kd.R_mono (Kd.R_far (p := ⟨gb284, 2, none⟩) (Kd.R_far (p := ⟨gb284, 1, none⟩) (Kd.R_far (p := ⟨gb284, 0, none⟩) (Kd.R_types HO276.out BK284.out (by decide)) (fun _ hk => hk.2) (.int .i64 t278)) (fun _ hk => hk.2) (.slice Ao116 t279.length co116)) (fun _ hk => hk.2) (.int .i64 t282)) (fun _ h_ => h_.1)))) hb); have n4_ := Aside0.mk (Kd.R_below (rq_ ((Kd.R_mono (Kd.R_far (p := ⟨gb284, 2, none⟩) (Kd.R_far (p := ⟨gb284, 1, none⟩) (Kd.R_far (p := ⟨gb284, 0, none⟩) (Kd.R_types HO281.out BK284.out (by decide)) (fun _ hk => hk.2) (.int .i64 t278)) (fun _ hk => hk.2) (.slice Ao116 t279.length co116)) (fun _ hk => hk.2) (.int .i64 t282)) (fun _ h_ => h_.1)))) hb); have n5_ := Aside0.mk (blk_below (g := gb233) (o := .cells #[.int .i64 a0_0, .slice A0_1 l0_1.length c0_1, .int .i64 a0_2] 24 (0, 0)) (by (with_reducible repeat (first | refine blk_drewN ?_ _ | refine blk_drew ?_ | refine blk_alloc ?_ _)); refine blk_far ?_ NB233_284.out _; (with_reducible repeat (first | refine blk_drewN ?_ _ | refine blk_drew ?_ | refine blk_alloc ?_ _)); refine blk_far ?_ NB233_284.out _; (with_reducible repeat (first | refine blk_drewN ?_ _ | refine blk_drew ?_ | refine blk_alloc ?_ _)); refine blk_far ?_ NB233_284.out _; (with_reducible repeat (first | refine blk_drewN ?_ _ | refine blk_drew ?_ | refine blk_alloc ?_ _)); exact BK233.out) hb); have n6_ := Aside0.mk (blk_below (g := gb246) (o := .cells #[.int .i64 t240, .slice Ao22 t241.length co22, .int .i64 t244] 30 (0, 0)) (by (with_reducible repeat (first | refine blk_drewN ?_ _ | refine blk_drew ?_ | refine blk_alloc ?_ _)); refine blk_far ?_ NB246_284.out _; (with_reducible repeat (first | refine blk_drewN ?_ _ | refine blk_drew ?_ | refine blk_alloc ?_ _)); refine blk_far ?_ NB246_284.out _; (with_reducible repeat (first | refine blk_drewN ?_ _ | refine blk_drew ?_ | refine blk_alloc ?_ _)); refine blk_far ?_ NB246_284.out _; (with_reducible repeat (first | refine blk_drewN ?_ _ | refine blk_drew ?_ | refine blk_alloc ?_ _)); exact BK246.out) hb); have n7_ := Aside0.mk (blk_below (g := gb252) (o := .cells #[.int .i64 t247, .slice Ao29 t268.length co29, .int .i64 t251] 30 (0, 0)) (by (with_reducible repeat (first | refine blk_drewN ?_ _ | refine blk_drew ?_ | refine blk_alloc ?_ _)); refine blk_far ?_ NB252_284.out _; (with_reducible repeat (first | refine blk_drewN ?_ _ | refine blk_drew ?_ | refine blk_alloc ?_ _)); refine blk_far ?_ NB252_284.out _; (with_reducible repeat (first | refine blk_drewN ?_ _ | refine blk_drew ?_ | refine blk_alloc ?_ _)); refine blk_far ?_ NB252_284.out _; (with_reducible repeat (first | refine blk_drewN ?_ _ | refine blk_drew ?_ | refine blk_alloc ?_ _)); exact BK252.out) hb); have n8_ := Aside0.mk (blk_below (g := gb259) (o := .cells #[.int .i64 t253, .slice Ao36 t254.length co36, .int .i64 t257] 30 (0, 0)) (by (with_reducible repeat (first | refine blk_drewN ?_ _ | refine blk_drew ?_ | refine blk_alloc ?_ _)); refine blk_far ?_ NB259_284.out _; (with_reducible repeat (first | refine blk_drewN ?_ _ | refine blk_drew ?_ | refine blk_alloc ?_ _)); refine blk_far ?_ NB259_284.out _; (with_reducible repeat (first | refine blk_drewN ?_ _ | refine blk_drew ?_ | refine blk_alloc ?_ _)); refine blk_far ?_ NB259_284.out _; (with_reducible repeat (first | refine blk_drewN ?_ _ | refine blk_drew ?_ | refine blk_alloc ?_ _)); exact BK259.out) hb); have n9_ := Aside0.mk (blk_below (g := gb284) (o := .cells #[.int .i64 t278, .slice Ao116 t279.length co116, .int .i64 t282] 30 (0, 0)) (by (with_reducible repeat (first | refine blk_drewN ?_ _ | refine blk_drew ?_ | refine blk_alloc ?_ _)); refine blk_put (cs := #[.int .i64 t278, .slice Ao116 t279.length co116, .int .i64 0]) ?_ 2 _ rfl; (with_reducible repeat (first | refine blk_drewN ?_ _ | refine blk_drew ?_ | refine blk_alloc ?_ _)); refine blk_put (cs := #[.int .i64 t278, .slice none 0 0, .int .i64 0]) ?_ 1 _ rfl; (with_reducible repeat (first | refine blk_drewN ?_ _ | refine blk_drew ?_ | refine blk_alloc ?_ _)); refine blk_put (cs := #[.int .i64 0, .slice none 0 0, .int .i64 0]) ?_ 0 _ rfl; (with_reducible repeat (first | refine blk_drewN ?_ _ | refine blk_drew ?_ | refine blk_alloc ?_ _)); exact BK284.out) hb); have n10_ := Aside0.mk (below_step (bq_) hb); clear HO_247001; clear HO_253001; clear HO_260001; clear HO276; clear HO281; clear BK233; clear BK246; clear BK252; clear BK259; clear BK284; clear HB; have HO_247001 := n0_; have HO_253001 := n1_; have HO_260001 := n2_; have HO276 := n3_; have HO281 := n4_; have BK233 := n5_; have BK246 := n6_; have BK252 := n7_; have BK259 := n8_; have BK284 := n9_; have HB := n10_; clear n0_ n1_ n2_ n3_ n4_ n5_ n6_ n7_ n8_ n9_ n10_; (try clear hb); (try clear hb2); (try clear hk); (try clear hi)))
                          go_meet
                          case rel => exact ⟨_, (true), (by first | rfl | (simp; done) | (simp [*]; done)), H', ⟨by have := HJ10.out; have := HJ59.out; first | omega | exact Nat.le_refl _⟩, ⟨by (try simp only [hl253001_59]); (with_reducible repeat (first | apply Kd.R_alloc | apply Kd.R_drewN | apply Kd.R_drew)); exact Kd.R_mono HO_247001.out (fun _ hk => ⟨hk.1.1.1, ⟨hk.1.1.2, hk.2⟩⟩)⟩, ⟨by (try simp only [hl253001_59]); (with_reducible repeat (first | apply Kd.R_alloc | apply Kd.R_drewN | apply Kd.R_drew)); exact Kd.R_mono HO_253001.out (fun _ hk => ⟨hk.1.1.1, ⟨hk.1.1.2, hk.2⟩⟩)⟩, ⟨by (try simp only [hl253001_59]); (with_reducible repeat (first | apply Kd.R_alloc | apply Kd.R_drewN | apply Kd.R_drew)); exact Kd.R_mono HO_260001.out (fun _ hk => ⟨hk.1.1.1, ⟨hk.1.1.2, hk.2⟩⟩)⟩, ⟨by (try simp only [hl253001_59]); (with_reducible repeat (first | apply Kd.R_alloc | apply Kd.R_drewN | apply Kd.R_drew)); exact Kd.R_mono HO281.out (fun _ hk => ⟨hk.1.1.1.2, ⟨hk.1.1.2, hk.1.2⟩⟩)⟩, ⟨by (try simp only [hl253001_59]); (with_reducible repeat (first | refine blk_drewN ?_ _ | refine blk_drew ?_ | refine blk_alloc ?_ _)); exact BK233.out⟩, ⟨by (try simp only [hl253001_59]); (with_reducible repeat (first | refine blk_drewN ?_ _ | refine blk_drew ?_ | refine blk_alloc ?_ _)); exact BK246.out⟩, ⟨by (try simp only [hl253001_59]); (with_reducible repeat (first | refine blk_drewN ?_ _ | refine blk_drew ?_ | refine blk_alloc ?_ _)); exact BK252.out⟩, ⟨by (try simp only [hl253001_59]); (with_reducible repeat (first | refine blk_drewN ?_ _ | refine blk_drew ?_ | refine blk_alloc ?_ _)); exact BK259.out⟩, ⟨by (try simp only [hl253001_59]); (with_reducible repeat (first | refine blk_drewN ?_ _ | refine blk_drew ?_ | refine blk_alloc ?_ _)); exact BK284.out⟩, ⟨bq_⟩⟩
                      case rest =>
                        clear HC96
                        try clear c1
                        try clear c2
                        try clear p2
                        try clear c3
                        try clear c3b0
                        try clear c4
                        try clear c5
                        try clear c6
                        try clear c7
                        try clear c8
                        try clear c9
                        try clear c10
                        try clear c11
                        try clear c12
                        try clear c13
                        try clear c14
                        try clear c16
                        try clear c20
                        try clear c23
                        try clear c26
                        try clear c27
                        try clear c28
                        try clear c32
                        try clear c33
                        try clear c34
                        try clear c38
                        try clear c39
                        try clear c40
                        try clear c41
                        try clear c43
                        try clear c44
                        try clear c47
                        try clear c48
                        try clear c49
                        try clear c51
                        try clear c52
                        try clear c55
                        try clear c58
                        try clear c65
                        try clear c66
                        try clear c67
                        try clear c70
                        try clear c70b0
                        try clear c72
                        try clear c73
                        try clear c74
                        try clear c75
                        try clear c77
                        try clear c78
                        try clear c81
                        try clear c82
                        try clear c83
                        try clear c85
                        try clear c86
                        try clear c89
                        try clear c92
                        try clear c92b0
                        try clear c93
                        try clear c93b0
                        try clear c93b1
                        try clear c97
                        try clear c98
                        try clear c99
                        try clear c104
                        try clear c105
                        try clear c111
                        try clear c112
                        try clear c113
                        try clear c114
                        try clear c118
                        try clear c119
                        try clear c120
                        try clear c121
                        try clear c122
                        try clear c124
                        try clear c125
                        try clear c126
                        try clear c129
                        try clear c130
                        try clear c131
                        try clear c132
                        try clear c134
                        try clear c135
                        try clear c136
                        try clear hcz100_0
                        try clear hcz100_1
                        try clear hcz100_2
                        try clear hcz102_0
                        try clear hcz102_1
                        try clear hcz102_2
                        try clear hcz106_0
                        try clear hcz106_1
                        try clear hcz106_2
                        try clear hcz115_0
                        try clear hcz115_1
                        try clear hcz115_2
                        try clear hcz123_0
                        try clear hcz123_1
                        try clear hcz123_2
                        try clear hcz127_0
                        try clear hcz127_1
                        try clear hcz127_2
                        try clear hcz133_0
                        try clear hcz133_1
                        try clear hcz133_2
                        try clear hcz137_0
                        try clear hcz137_1
                        try clear hcz137_2
                        try clear hcz13_0
                        try clear hcz13_1
                        try clear hcz13_2
                        try clear hcz15_0
                        try clear hcz15_1
                        try clear hcz15_2
                        try clear hcz21_0
                        try clear hcz21_1
                        try clear hcz21_2
                        try clear hcz23_0
                        try clear hcz23_1
                        try clear hcz23_2
                        try clear hcz28_0
                        try clear hcz28_1
                        try clear hcz28_2
                        try clear hcz35_0
                        try clear hcz35_1
                        try clear hcz35_2
                        try clear hcz42_0
                        try clear hcz42_1
                        try clear hcz42_2
                        try clear hcz45_0
                        try clear hcz45_1
                        try clear hcz45_2
                        try clear hcz50_0
                        try clear hcz50_1
                        try clear hcz50_2
                        try clear hcz53_0
                        try clear hcz53_1
                        try clear hcz53_2
                        try clear hcz5_0
                        try clear hcz5_1
                        try clear hcz5_2
                        try clear hcz68_0
                        try clear hcz68_1
                        try clear hcz68_2
                        try clear hcz76_0
                        try clear hcz76_1
                        try clear hcz76_2
                        try clear hcz79_0
                        try clear hcz79_1
                        try clear hcz79_2
                        try clear hcz84_0
                        try clear hcz84_1
                        try clear hcz84_2
                        try clear hcz87_0
                        try clear hcz87_1
                        try clear hcz87_2
                        try clear hfz100_0
                        try clear hfz100_1
                        try clear hfz100_2
                        try clear hfz102_0
                        try clear hfz102_1
                        try clear hfz102_2
                        try clear hfz106_0
                        try clear hfz106_1
                        try clear hfz106_2
                        try clear hfz115_0
                        try clear hfz115_1
                        try clear hfz115_2
                        try clear hfz123_0
                        try clear hfz123_1
                        try clear hfz123_2
                        try clear hfz127_0
                        try clear hfz127_1
                        try clear hfz127_2
                        try clear hfz133_0
                        try clear hfz133_1
                        try clear hfz133_2
                        try clear hfz137_0
                        try clear hfz137_1
                        try clear hfz137_2
                        try clear hfz13_0
                        try clear hfz13_1
                        try clear hfz13_2
                        try clear hfz15_0
                        try clear hfz15_1
                        try clear hfz15_2
                        try clear hfz21_0
                        try clear hfz21_1
                        try clear hfz21_2
                        try clear hfz23_0
                        try clear hfz23_1
                        try clear hfz23_2
                        try clear hfz28_0
                        try clear hfz28_1
                        try clear hfz28_2
                        try clear hfz35_0
                        try clear hfz35_1
                        try clear hfz35_2
                        try clear hfz42_0
                        try clear hfz42_1
                        try clear hfz42_2
                        try clear hfz45_0
                        try clear hfz45_1
                        try clear hfz45_2
                        try clear hfz50_0
                        try clear hfz50_1
                        try clear hfz50_2
                        try clear hfz53_0
                        try clear hfz53_1
                        try clear hfz53_2
                        try clear hfz5_0
                        try clear hfz5_1
                        try clear hfz5_2
                        try clear hfz68_0
                        try clear hfz68_1
                        try clear hfz68_2
                        try clear hfz76_0
                        try clear hfz76_1
                        try clear hfz76_2
                        try clear hfz79_0
                        try clear hfz79_1
                        try clear hfz79_2
                        try clear hfz84_0
                        try clear hfz84_1
                        try clear hfz84_2
                        try clear hfz87_0
                        try clear hfz87_1
                        try clear hfz87_2
                        try clear p2
                        obtain ⟨kq, x87_95, rfl, HA, HJ95, HO_247001, HO_253001, HO_260001, HO_285001, BK233, BK246, BK252, BK259, BK284, HB⟩ := hcut
                        have hl260001_95 := (Kd.R_reads' HO_260001.out).1
                        rw [hl260001_95] at HO_260001
                        (try simp only [hl260001_95])
                        (try simp only [hl260001_95] at BK233)
                        (try simp only [hl260001_95] at BK246)
                        (try simp only [hl260001_95] at BK252)
                        (try simp only [hl260001_95] at BK259)
                        (try simp only [hl260001_95] at BK284)
                        (try simp only [hl260001_95] at HO_247001)
                        (try simp only [hl260001_95] at HO_253001)
                        (try simp only [hl260001_95] at HO_285001)
                        cases kq with
                        | zero => exact absurd HA.out (by simp [laws_FnExactNotOf.j2])
                        | succ kj95 =>
                          have H := HA.out
                          clear HA
                          simp only [laws_FnExactNotOf.j2] at H
                          by_cases c139 : x87_95 = true
                          · subst c139
                            have H1 : (some false) = some r := by rw [if_pos rfl] at H; exact H
                            clear H
                            have H := H1
                            clear H1
                            exact absurd (Option.some.inj H).symm (by rw [hr_.out]; simp)
                          · replace c139 := Bool.eq_false_iff.mpr c139
                            subst c139
                            have H1 : ((laws_heldDiagram.f kj95 t253 t271 t257 1).bind fun t286 => (if t286 < 0 then (some false) else (if t286 = t270 then (some true) else (some false)))) = some r := by rw [if_neg (show ¬ (false = true) by decide)] at H; exact H
                            clear H
                            have H := H1
                            clear H1
                            replace H := Option.bind_eq_some_iff.mp H
                            obtain ⟨t286, A1400, H⟩ := H
                            replace H : (if t286 < 0 then (some false) else (if t286 = t270 then (some true) else (some false))) = some r := H
                            have A140 := Aside0.mk A1400
                            clear A1400
                            by_cases c141 : t286 < 0
                            · rw [if_pos c141] at H
                              have c141b0 : decide (t286 < 0) = true := decide_eq_true c141
                              clear c141
                              exact absurd (Option.some.inj H).symm (by rw [hr_.out]; simp)
                            · rw [if_neg c141] at H
                              have c141b0 : decide (t286 < 0) = false := decide_eq_false c141
                              clear c141
                              by_cases c142 : t286 = t270
                              · rw [if_pos c142] at H
                                have c142b0 : (t286 == t270) = true := beq_iff_eq.mpr c142
                                have c142b1 : (t286 != t270) = false := bne_eq_false_iff_eq.mpr c142
                                clear c142
                                obtain rfl := Option.some.inj H
                                have hnb143 := NB259_233.out
                                have hnc143 := NB233_259.out
                                have hnb144 := NB259_246.out
                                have hnc144 := NB246_259.out
                                have hnb145 := NB259_252.out
                                have hnc145 := NB252_259.out
                                have hnb146 := NB259_284.out
                                have hnc146 := NB284_259.out
                                have hcz147_0 := cq_ BK259.out 0 (.int .i64 t253)
                                have hcz147_1 := cq_ BK259.out 1 (.slice Ao36 t271.length co36)
                                have hcz147_2 := cq_ BK259.out 2 (.int .i64 t257)
                                have hfz147_0 := blk_frozen BK259.out 0
                                have hfz147_1 := blk_frozen BK259.out 1
                                have hfz147_2 := blk_frozen BK259.out 2
                                go_wp2_with (first | ((with_reducible refine gate_callee (f := 28) rfl ?_); refine goesL_ (some 90) rfl rfl Try.func28 (by kernel_rfl) rfl #[.agg #[.int .i64 t253, .slice Ao36 t271.length co36, .int .i64 t257], .int .i64 1] rfl (by (try simp only [List.map_toArray, List.map_cons, List.map_nil]); first | done | rfl | (simp only [List.length_drop, List.length_take]; rfl)) ?_; (with_reducible refine (laws_heldDiagram.calls kj95 t253 _ _ t271 t257 1 t286 _ ?side1 ?side2 A140.out).mono ?_); (case side1 => repeat (first | exact (Kd.R_reads' HO_260001.out).2.2 | (with_reducible refine Kd.C_alloc ?_ _) | (with_reducible refine Kd.C_drewN ?_ _) | (with_reducible refine Kd.C_drew ?_))); (case side2 => exact (Kd.R_reads' HO_260001.out).2.1); rintro e w148 ⟨rfl, hb⟩; refine ⟨_, rfl, ?_⟩; have n0_ := Aside0.mk (Kd.R_below (rq_ HO_247001.out) hb); have n1_ := Aside0.mk (Kd.R_below (rq_ HO_253001.out) hb); have n2_ := Aside0.mk (Kd.R_below (rq_ HO_260001.out) hb); have n3_ := Aside0.mk (Kd.R_below (rq_ HO_285001.out) hb); have n4_ := Aside0.mk (blk_below (bk_ BK233.out) hb); have n5_ := Aside0.mk (blk_below (bk_ BK246.out) hb); have n6_ := Aside0.mk (blk_below (bk_ BK252.out) hb); have n7_ := Aside0.mk (blk_below (bk_ BK259.out) hb); have n8_ := Aside0.mk (blk_below (bk_ BK284.out) hb); have n9_ := Aside0.mk (below_step (bq_) hb); clear HO_247001; clear HO_253001; clear HO_260001; clear HO_285001; clear BK233; clear BK246; clear BK252; clear BK259; clear BK284; clear HB; have HO_247001 := n0_; have HO_253001 := n1_; have HO_260001 := n2_; have HO_285001 := n3_; have BK233 := n4_; have BK246 := n5_; have BK252 := n6_; have BK259 := n7_; have BK284 := n8_; have HB := n9_; clear n0_ n1_ n2_ n3_ n4_ n5_ n6_ n7_ n8_ n9_; (try clear hb); (try clear hb2); (try clear hk); (try clear hi)))
                                go_ret
                                exact ⟨by first | rfl | (simp [errW_none, errW_some] <;> rfl) | (simp [*, errW_none, errW_some] <;> rfl), bq_⟩
                              · rw [if_neg c142] at H
                                have c142b0 : (t286 == t270) = false := beq_eq_false_iff_ne.mpr c142
                                have c142b1 : (t286 != t270) = true := bne_iff_ne.mpr c142
                                exact absurd (Option.some.inj H).symm (by rw [hr_.out]; simp)
                    · rw [if_neg c93] at H
                      have c93b0 : (t272 == t270) = false := beq_eq_false_iff_ne.mpr c93
                      have c93b1 : (t272 != t270) = true := bne_iff_ne.mpr c93
                      exact absurd (Option.some.inj H).symm (by rw [hr_.out]; simp)
          · replace c58 := Bool.eq_false_iff.mpr c58
            subst c58
            have H1 : (some false) = some r := by rw [if_neg (show ¬ (false = true) by decide)] at H; exact H
            clear H
            have H := H1
            clear H1
            exact absurd (Option.some.inj H).symm (by rw [hr_.out]; simp)

/-- The one pure statement of laws_FnExactNotOf. -/
def laws_FnExactNotOf.Pure : Prop := ∀ (a0_0 : Int) (l0_1 : List (S101)) (a0_2 : Int), ((Lit.int .i64 a0_0).wf = true) → (l0_1.length ≤ maxLen ∧ ∀ y0_ ∈ l0_1, ((Lit.int .i64 y0_.f0).wf = true) ∧ ((Lit.int .i64 y0_.f1).wf = true) ∧ ((Lit.int .i64 y0_.f2).wf = true)) → ((Lit.int .i64 a0_2).wf = true) → ∃ k, laws_FnExactNotOf.f k a0_0 l0_1 a0_2 = some true
theorem laws_FnExactNotOf.walk (P : laws_FnExactNotOf.Pure) (w : World) (a0_0 : Int) (hg0_0 : (Lit.int .i64 a0_0).wf = true) (A0_1 : Option Addr) (c0_1 : Nat) (l0_1 : List (S101)) (hr0_1 : Kd.C k101 w A0_1 l0_1.length l0_1) (hc0_1 : l0_1.length ≤ c0_1) (hg0_1 : l0_1.length ≤ maxLen ∧ ∀ y0_ ∈ l0_1, ((Lit.int .i64 y0_.f0).wf = true) ∧ ((Lit.int .i64 y0_.f1).wf = true) ∧ ((Lit.int .i64 y0_.f2).wf = true)) (a0_2 : Int) (hg0_2 : (Lit.int .i64 a0_2).wf = true) :
    Calls Try.prog 6 #[.agg #[.int .i64 a0_0, .slice A0_1 l0_1.length c0_1, .int .i64 a0_2]] w fun e w' => e = .returned (.bool true) ∧ Below w.heap.size w w' := by
  obtain ⟨k, h⟩ := P a0_0 l0_1 a0_2 hg0_0 hg0_1 hg0_2
  refine (laws_FnExactNotOf.calls k a0_0 A0_1 c0_1 l0_1 a0_2 true w hr0_1 hc0_1 ⟨rfl⟩ h).mono ?_
  rintro e w' ⟨rfl, hd⟩
  exact ⟨rfl, hd⟩

end Go.Proofs.Ytpndhlcbfobelaa.PSN
