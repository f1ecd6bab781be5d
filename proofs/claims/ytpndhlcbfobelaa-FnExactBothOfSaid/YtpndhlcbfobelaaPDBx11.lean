import Derived.Test.YtpndhlcbfobelaaPDBx0
import Derived.Test.YtpndhlcbfobelaaPDBx2
import Derived.Test.YtpndhlcbfobelaaPDBx3
import Derived.Test.YtpndhlcbfobelaaPDBx6
import Derived.Test.YtpndhlcbfobelaaPDBx10
import Derived.Test.YtpndhlcbfobelaaPDBx11a
namespace Go.Proofs.Ytpndhlcbfobelaa.PDB
open Go.RowKit Go.Proofs.YtpndhlcbfobelaaW.PrintWords Go.Proofs.YtpndhlcbfobelaaW.PrintLast Go.Proofs.YtpndhlcbfobelaaW.PrintMore
attribute [local go_sem] max2_int min2_int max_two min_two max_three min_three max_four min_four   -- for this text's walks alone
set_option linter.unusedVariables false
set_option linter.unusedSimpArgs false
set_option maxHeartbeats 8000000 in
set_option maxRecDepth 100000 in
theorem laws_FnExactBothOf.calls (k : Nat) (a0_0 : Int) (A0_1 : Option Addr) (c0_1 : Nat) (l0_1 : List (S101)) (a0_2 : Int) (a1_0 : Int) (A1_1 : Option Addr) (c1_1 : Nat) (l1_1 : List (S101)) (a1_2 : Int) (r : Bool) (w : World) (hr0_1 : Kd.C k101 w A0_1 l0_1.length l0_1) (hc0_1 : l0_1.length ≤ c0_1) (hr1_1 : Kd.C k101 w A1_1 l1_1.length l1_1) (hc1_1 : l1_1.length ≤ c1_1) (hr_ : Aside0 (r = true)) (h : laws_FnExactBothOf.f k a0_0 l0_1 a0_2 a1_0 l1_1 a1_2 = some r) :
  Calls Try.prog 7 #[.agg #[.int .i64 a0_0, .slice A0_1 l0_1.length c0_1, .int .i64 a0_2], .agg #[.int .i64 a1_0, .slice A1_1 l1_1.length c1_1, .int .i64 a1_2]] w fun e w' => e = .returned (.bool r) ∧ Below w.heap.size w w' := by
 have hu24 := Try.underlying24
 have hu30 := Try.underlying30
 have HR0_1 := Aside0.mk hr0_1
 have HC0_1 := Aside0.mk hc0_1
 clear hr0_1 hc0_1
 have HR1_1 := Aside0.mk hr1_1
 have HC1_1 := Aside0.mk hc1_1
 clear hr1_1 hc1_1
 have HB := Aside0.mk (Below.refl w.heap.size w)
 have H : ((laws_szDiagram.f a0_0 l0_1 a0_2 1048576).bind fun t242 => (if t242 < 0 then (some true) else ((laws_szDiagram.f a1_0 l1_1 a1_2 t242).bind fun t243 => (if t243 < 0 then (some true) else ((laws_toDiagram.f k a0_0 l0_1 a0_2).bind fun bt244 => ((laws_toDiagram.f k a1_0 l1_1 a1_2).bind fun bt249 => ((spec_BothOf.f k bt244.1 bt244.2.1 bt244.2.2 bt249.1 bt249.2.1 bt249.2.2).bind fun bt254 => ((laws_toDiagram.f k a0_0 l0_1 a0_2).bind fun bt261 => ((laws_toDiagram.f k a1_0 l1_1 a1_2).bind fun bt267 => ((impl_BothOf.f k bt261.1 bt261.2.1 bt261.2.2 bt267.1 bt267.2.1 bt267.2.2).bind fun bt273 => ((laws_eqDiagram.f k bt273.1 bt273.2.1 bt273.2.2.1 bt254.1 bt254.2.1 bt254.2.2.1).bind fun t280 => (if t280 = true then (laws_FnExactBothOf.j0 k bt254.2.2.2 bt273.2.2.2 (bt273.2.2.2 != bt254.2.2.2) a0_0 l0_1 a0_2 a1_0 l1_1 a1_2 bt254.1 bt254.2.1 bt254.2.2.1 bt261.1 bt261.2.1 bt261.2.2 bt267.1 bt267.2.1 bt267.2.2 bt273.1 bt273.2.1 bt273.2.2.1) else (laws_FnExactBothOf.j0 k bt254.2.2.2 bt273.2.2.2 true a0_0 l0_1 a0_2 a1_0 l1_1 a1_2 bt254.1 bt254.2.1 bt254.2.2.1 bt261.1 bt261.2.1 bt261.2.2 bt267.1 bt267.2.1 bt267.2.2 bt273.1 bt273.2.1 bt273.2.2.1))))))))))))) = some r := h
 clear h
 replace H := Option.bind_eq_some_iff.mp H
 obtain ⟨t242, A30, H⟩ := H
 replace H : (if t242 < 0 then (some true) else ((laws_szDiagram.f a1_0 l1_1 a1_2 t242).bind fun t243 => (if t243 < 0 then (some true) else ((laws_toDiagram.f k a0_0 l0_1 a0_2).bind fun bt244 => ((laws_toDiagram.f k a1_0 l1_1 a1_2).bind fun bt249 => ((spec_BothOf.f k bt244.1 bt244.2.1 bt244.2.2 bt249.1 bt249.2.1 bt249.2.2).bind fun bt254 => ((laws_toDiagram.f k a0_0 l0_1 a0_2).bind fun bt261 => ((laws_toDiagram.f k a1_0 l1_1 a1_2).bind fun bt267 => ((impl_BothOf.f k bt261.1 bt261.2.1 bt261.2.2 bt267.1 bt267.2.1 bt267.2.2).bind fun bt273 => ((laws_eqDiagram.f k bt273.1 bt273.2.1 bt273.2.2.1 bt254.1 bt254.2.1 bt254.2.2.1).bind fun t280 => (if t280 = true then (laws_FnExactBothOf.j0 k bt254.2.2.2 bt273.2.2.2 (bt273.2.2.2 != bt254.2.2.2) a0_0 l0_1 a0_2 a1_0 l1_1 a1_2 bt254.1 bt254.2.1 bt254.2.2.1 bt261.1 bt261.2.1 bt261.2.2 bt267.1 bt267.2.1 bt267.2.2 bt273.1 bt273.2.1 bt273.2.2.1) else (laws_FnExactBothOf.j0 k bt254.2.2.2 bt273.2.2.2 true a0_0 l0_1 a0_2 a1_0 l1_1 a1_2 bt254.1 bt254.2.1 bt254.2.2.1 bt261.1 bt261.2.1 bt261.2.2 bt267.1 bt267.2.1 bt267.2.2 bt273.1 bt273.2.1 bt273.2.2.1)))))))))))) = some r := H
 have A3 := Aside0.mk A30
 clear A30
 by_cases c4 : t242 < 0
 ·rw [if_pos c4] at H
  have c4b0 : decide (t242 < 0) = true := decide_eq_true c4
  clear c4
  obtain rfl := Option.some.inj H
  go_enter Try.func7, Try.ntmps7
  go_wp2_with (first | ((with_reducible refine gate_dst (N := 2) rfl ?_); refine boxq_ (N := 2) (cs := #[.int .i64 a0_0, .slice A0_1 l0_1.length c0_1, .int .i64 a0_2]) (t := 24) ?_; intro gb240 hg w5 hbox hb; have n0_ := Aside0.mk (below_step (bq_) hb); have n1_ := Aside0.mk (hbox); have n2_ := Aside0.mk ((by rw [hg]; exact (below_size (bq_)) : w.heap.size ≤ gb240)); have n3_ := Aside0.mk ((by rw [hg]; exact (below_size (bq_)) : w.heap.size ≤ gb240)); clear HB; have HB := n0_; have BK240 := n1_; have GW240 := n2_; have GE240 := n3_; clear n0_ n1_ n2_ n3_; clear hb hbox hg) | ((with_reducible refine gate_dst (N := 3) rfl ?_); refine boxq_ (N := 3) (cs := #[.int .i64 a1_0, .slice A1_1 l1_1.length c1_1, .int .i64 a1_2]) (t := 24) ?_; intro gb241 hg w6 hbox hb; have n0_ := Aside0.mk (blk_below (bk_ BK240.out) hb); have n1_ := Aside0.mk (below_step (bq_) hb); have n2_ := Aside0.mk (hbox); have n3_ := Aside0.mk ((by rw [hg]; exact (below_size (bq_)) : w.heap.size ≤ gb241)); have n4_ := Aside0.mk ((by rw [hg]; exact (below_size (bq_)) : w.heap.size ≤ gb241)); have n5_ := Aside0.mk ((by rw [hg]; exact Nat.ne_of_lt (blk_lt (bk_ BK240.out)) : gb240 ≠ gb241)); have n6_ := Aside0.mk ((by rw [hg]; exact Nat.ne_of_gt (blk_lt (bk_ BK240.out)) : gb241 ≠ gb240)); clear BK240; clear HB; have BK240 := n0_; have HB := n1_; have BK241 := n2_; have GW241 := n3_; have GE241 := n4_; have NB240_241 := n5_; have NB241_240 := n6_; clear n0_ n1_ n2_ n3_ n4_ n5_ n6_; clear hb hbox hg; have hnb7 := NB240_241.out; have hnc7 := NB241_240.out; have hcz8_0 := cq_ BK240.out 0 (.int .i64 a0_0); have hcz8_1 := cq_ BK240.out 1 (.slice A0_1 l0_1.length c0_1); have hcz8_2 := cq_ BK240.out 2 (.int .i64 a0_2); have hfz8_0 := blk_frozen BK240.out 0; have hfz8_1 := blk_frozen BK240.out 1; have hfz8_2 := blk_frozen BK240.out 2) | ((with_reducible refine gate_callee (f := 12) rfl ?_); refine goesL_ (some 19) rfl rfl Try.func12 (by kernel_rfl) rfl #[.agg #[.int .i64 a0_0, .slice A0_1 l0_1.length c0_1, .int .i64 a0_2], .int .i64 1048576] rfl (by (try simp only [List.map_toArray, List.map_cons, List.map_nil]); first | done | rfl | (simp only [List.length_drop, List.length_take]; rfl)) ?_; (with_reducible refine (laws_szDiagram.calls a0_0 _ _ l0_1 a0_2 1048576 t242 _ ?side1 ?side2 A3.out).mono ?_); (case side1 => repeat (first | exact (Kd.C_below HR0_1.out HB.out) | (with_reducible refine Kd.C_alloc ?_ _) | (with_reducible refine Kd.C_drewN ?_ _) | (with_reducible refine Kd.C_drew ?_))); (case side2 => exact HC0_1.out); rintro e w9 ⟨rfl, hb⟩; refine ⟨_, rfl, ?_⟩; have n0_ := Aside0.mk (blk_below (bk_ BK240.out) hb); have n1_ := Aside0.mk (blk_below (bk_ BK241.out) hb); have n2_ := Aside0.mk (below_step (bq_) hb); clear BK240; clear BK241; clear HB; have BK240 := n0_; have BK241 := n1_; have HB := n2_; clear n0_ n1_ n2_; (try clear hb); (try clear hb2); (try clear hk); (try clear hi)))
  go_ret
  exact ⟨by first | rfl | (simp [errW_none, errW_some] <;> rfl) | (simp [*, errW_none, errW_some] <;> rfl), bq_⟩
 ·rw [if_neg c4] at H
  have c4b0 : decide (t242 < 0) = false := decide_eq_false c4
  clear c4
  replace H := Option.bind_eq_some_iff.mp H
  obtain ⟨t243, A100, H⟩ := H
  replace H : (if t243 < 0 then (some true) else ((laws_toDiagram.f k a0_0 l0_1 a0_2).bind fun bt244 => ((laws_toDiagram.f k a1_0 l1_1 a1_2).bind fun bt249 => ((spec_BothOf.f k bt244.1 bt244.2.1 bt244.2.2 bt249.1 bt249.2.1 bt249.2.2).bind fun bt254 => ((laws_toDiagram.f k a0_0 l0_1 a0_2).bind fun bt261 => ((laws_toDiagram.f k a1_0 l1_1 a1_2).bind fun bt267 => ((impl_BothOf.f k bt261.1 bt261.2.1 bt261.2.2 bt267.1 bt267.2.1 bt267.2.2).bind fun bt273 => ((laws_eqDiagram.f k bt273.1 bt273.2.1 bt273.2.2.1 bt254.1 bt254.2.1 bt254.2.2.1).bind fun t280 => (if t280 = true then (laws_FnExactBothOf.j0 k bt254.2.2.2 bt273.2.2.2 (bt273.2.2.2 != bt254.2.2.2) a0_0 l0_1 a0_2 a1_0 l1_1 a1_2 bt254.1 bt254.2.1 bt254.2.2.1 bt261.1 bt261.2.1 bt261.2.2 bt267.1 bt267.2.1 bt267.2.2 bt273.1 bt273.2.1 bt273.2.2.1) else (laws_FnExactBothOf.j0 k bt254.2.2.2 bt273.2.2.2 true a0_0 l0_1 a0_2 a1_0 l1_1 a1_2 bt254.1 bt254.2.1 bt254.2.2.1 bt261.1 bt261.2.1 bt261.2.2 bt267.1 bt267.2.1 bt267.2.2 bt273.1 bt273.2.1 bt273.2.2.1)))))))))) = some r := H
  have A10 := Aside0.mk A100
  clear A100
  by_cases c11 : t243 < 0
  ·rw [if_pos c11] at H
   have c11b0 : decide (t243 < 0) = true := decide_eq_true c11
   clear c11
   obtain rfl := Option.some.inj H
   go_enter Try.func7, Try.ntmps7
   go_wp2_with (first | ((with_reducible refine gate_dst (N := 2) rfl ?_); refine boxq_ (N := 2) (cs := #[.int .i64 a0_0, .slice A0_1 l0_1.length c0_1, .int .i64 a0_2]) (t := 24) ?_; intro gb240 hg w12 hbox hb; have n0_ := Aside0.mk (below_step (bq_) hb); have n1_ := Aside0.mk (hbox); have n2_ := Aside0.mk ((by rw [hg]; exact (below_size (bq_)) : w.heap.size ≤ gb240)); have n3_ := Aside0.mk ((by rw [hg]; exact (below_size (bq_)) : w.heap.size ≤ gb240)); clear HB; have HB := n0_; have BK240 := n1_; have GW240 := n2_; have GE240 := n3_; clear n0_ n1_ n2_ n3_; clear hb hbox hg) | ((with_reducible refine gate_dst (N := 3) rfl ?_); refine boxq_ (N := 3) (cs := #[.int .i64 a1_0, .slice A1_1 l1_1.length c1_1, .int .i64 a1_2]) (t := 24) ?_; intro gb241 hg w13 hbox hb; have n0_ := Aside0.mk (blk_below (bk_ BK240.out) hb); have n1_ := Aside0.mk (below_step (bq_) hb); have n2_ := Aside0.mk (hbox); have n3_ := Aside0.mk ((by rw [hg]; exact (below_size (bq_)) : w.heap.size ≤ gb241)); have n4_ := Aside0.mk ((by rw [hg]; exact (below_size (bq_)) : w.heap.size ≤ gb241)); have n5_ := Aside0.mk ((by rw [hg]; exact Nat.ne_of_lt (blk_lt (bk_ BK240.out)) : gb240 ≠ gb241)); have n6_ := Aside0.mk ((by rw [hg]; exact Nat.ne_of_gt (blk_lt (bk_ BK240.out)) : gb241 ≠ gb240)); clear BK240; clear HB; have BK240 := n0_; have HB := n1_; have BK241 := n2_; have GW241 := n3_; have GE241 := n4_; have NB240_241 := n5_; have NB241_240 := n6_; clear n0_ n1_ n2_ n3_ n4_ n5_ n6_; clear hb hbox hg; have hnb14 := NB240_241.out; have hnc14 := NB241_240.out; have hcz15_0 := cq_ BK240.out 0 (.int .i64 a0_0); have hcz15_1 := cq_ BK240.out 1 (.slice A0_1 l0_1.length c0_1); have hcz15_2 := cq_ BK240.out 2 (.int .i64 a0_2); have hfz15_0 := blk_frozen BK240.out 0; have hfz15_1 := blk_frozen BK240.out 1; have hfz15_2 := blk_frozen BK240.out 2) | ((with_reducible refine gate_callee (f := 12) rfl ?_); refine goesL_ (some 19) rfl rfl Try.func12 (by kernel_rfl) rfl #[.agg #[.int .i64 a0_0, .slice A0_1 l0_1.length c0_1, .int .i64 a0_2], .int .i64 1048576] rfl (by (try simp only [List.map_toArray, List.map_cons, List.map_nil]); first | done | rfl | (simp only [List.length_drop, List.length_take]; rfl)) ?_; (with_reducible refine (laws_szDiagram.calls a0_0 _ _ l0_1 a0_2 1048576 t242 _ ?side1 ?side2 A3.out).mono ?_); (case side1 => repeat (first | exact (Kd.C_below HR0_1.out HB.out) | (with_reducible refine Kd.C_alloc ?_ _) | (with_reducible refine Kd.C_drewN ?_ _) | (with_reducible refine Kd.C_drew ?_))); (case side2 => exact HC0_1.out); rintro e w16 ⟨rfl, hb⟩; refine ⟨_, rfl, ?_⟩; have n0_ := Aside0.mk (blk_below (bk_ BK240.out) hb); have n1_ := Aside0.mk (blk_below (bk_ BK241.out) hb); have n2_ := Aside0.mk (below_step (bq_) hb); clear BK240; clear BK241; clear HB; have BK240 := n0_; have BK241 := n1_; have HB := n2_; clear n0_ n1_ n2_; (try clear hb); (try clear hb2); (try clear hk); (try clear hi); have hcz17_0 := cq_ BK241.out 0 (.int .i64 a1_0); have hcz17_1 := cq_ BK241.out 1 (.slice A1_1 l1_1.length c1_1); have hcz17_2 := cq_ BK241.out 2 (.int .i64 a1_2); have hfz17_0 := blk_frozen BK241.out 0; have hfz17_1 := blk_frozen BK241.out 1; have hfz17_2 := blk_frozen BK241.out 2) | ((with_reducible refine gate_callee (f := 12) rfl ?_); refine goesL_ (some 24) rfl rfl Try.func12 (by kernel_rfl) rfl #[.agg #[.int .i64 a1_0, .slice A1_1 l1_1.length c1_1, .int .i64 a1_2], .int .i64 t242] rfl (by (try simp only [List.map_toArray, List.map_cons, List.map_nil]); first | done | rfl | (simp only [List.length_drop, List.length_take]; rfl)) ?_; (with_reducible refine (laws_szDiagram.calls a1_0 _ _ l1_1 a1_2 t242 t243 _ ?side1 ?side2 A10.out).mono ?_); (case side1 => repeat (first | exact (Kd.C_below HR1_1.out HB.out) | (with_reducible refine Kd.C_alloc ?_ _) | (with_reducible refine Kd.C_drewN ?_ _) | (with_reducible refine Kd.C_drew ?_))); (case side2 => exact HC1_1.out); rintro e w18 ⟨rfl, hb⟩; refine ⟨_, rfl, ?_⟩; have n0_ := Aside0.mk (blk_below (bk_ BK240.out) hb); have n1_ := Aside0.mk (blk_below (bk_ BK241.out) hb); have n2_ := Aside0.mk (below_step (bq_) hb); clear BK240; clear BK241; clear HB; have BK240 := n0_; have BK241 := n1_; have HB := n2_; clear n0_ n1_ n2_; (try clear hb); (try clear hb2); (try clear hk); (try clear hi)))
   go_ret
   exact ⟨by first | rfl | (simp [errW_none, errW_some] <;> rfl) | (simp [*, errW_none, errW_some] <;> rfl), bq_⟩
  ·rw [if_neg c11] at H
   have c11b0 : decide (t243 < 0) = false := decide_eq_false c11
   clear c11
   replace H := Option.bind_eq_some_iff.mp H
   obtain ⟨⟨t244, t245, t248⟩, A190, H⟩ := H
   replace H : ((laws_toDiagram.f k a1_0 l1_1 a1_2).bind fun bt249 => ((spec_BothOf.f k t244 t245 t248 bt249.1 bt249.2.1 bt249.2.2).bind fun bt254 => ((laws_toDiagram.f k a0_0 l0_1 a0_2).bind fun bt261 => ((laws_toDiagram.f k a1_0 l1_1 a1_2).bind fun bt267 => ((impl_BothOf.f k bt261.1 bt261.2.1 bt261.2.2 bt267.1 bt267.2.1 bt267.2.2).bind fun bt273 => ((laws_eqDiagram.f k bt273.1 bt273.2.1 bt273.2.2.1 bt254.1 bt254.2.1 bt254.2.2.1).bind fun t280 => (if t280 = true then (laws_FnExactBothOf.j0 k bt254.2.2.2 bt273.2.2.2 (bt273.2.2.2 != bt254.2.2.2) a0_0 l0_1 a0_2 a1_0 l1_1 a1_2 bt254.1 bt254.2.1 bt254.2.2.1 bt261.1 bt261.2.1 bt261.2.2 bt267.1 bt267.2.1 bt267.2.2 bt273.1 bt273.2.1 bt273.2.2.1) else (laws_FnExactBothOf.j0 k bt254.2.2.2 bt273.2.2.2 true a0_0 l0_1 a0_2 a1_0 l1_1 a1_2 bt254.1 bt254.2.1 bt254.2.2.1 bt261.1 bt261.2.1 bt261.2.2 bt267.1 bt267.2.1 bt267.2.2 bt273.1 bt273.2.1 bt273.2.2.1)))))))) = some r := H
   have A19 := Aside0.mk A190
   clear A190
   replace H := Option.bind_eq_some_iff.mp H
   obtain ⟨⟨t249, t250, t253⟩, A200, H⟩ := H
   replace H : ((spec_BothOf.f k t244 t245 t248 t249 t250 t253).bind fun bt254 => ((laws_toDiagram.f k a0_0 l0_1 a0_2).bind fun bt261 => ((laws_toDiagram.f k a1_0 l1_1 a1_2).bind fun bt267 => ((impl_BothOf.f k bt261.1 bt261.2.1 bt261.2.2 bt267.1 bt267.2.1 bt267.2.2).bind fun bt273 => ((laws_eqDiagram.f k bt273.1 bt273.2.1 bt273.2.2.1 bt254.1 bt254.2.1 bt254.2.2.1).bind fun t280 => (if t280 = true then (laws_FnExactBothOf.j0 k bt254.2.2.2 bt273.2.2.2 (bt273.2.2.2 != bt254.2.2.2) a0_0 l0_1 a0_2 a1_0 l1_1 a1_2 bt254.1 bt254.2.1 bt254.2.2.1 bt261.1 bt261.2.1 bt261.2.2 bt267.1 bt267.2.1 bt267.2.2 bt273.1 bt273.2.1 bt273.2.2.1) else (laws_FnExactBothOf.j0 k bt254.2.2.2 bt273.2.2.2 true a0_0 l0_1 a0_2 a1_0 l1_1 a1_2 bt254.1 bt254.2.1 bt254.2.2.1 bt261.1 bt261.2.1 bt261.2.2 bt267.1 bt267.2.1 bt267.2.2 bt273.1 bt273.2.1 bt273.2.2.1))))))) = some r := H
   have A20 := Aside0.mk A200
   clear A200
   replace H := Option.bind_eq_some_iff.mp H
   obtain ⟨⟨t254, t255, t258, t259⟩, A210, H⟩ := H
   replace H : ((laws_toDiagram.f k a0_0 l0_1 a0_2).bind fun bt261 => ((laws_toDiagram.f k a1_0 l1_1 a1_2).bind fun bt267 => ((impl_BothOf.f k bt261.1 bt261.2.1 bt261.2.2 bt267.1 bt267.2.1 bt267.2.2).bind fun bt273 => ((laws_eqDiagram.f k bt273.1 bt273.2.1 bt273.2.2.1 t254 t255 t258).bind fun t280 => (if t280 = true then (laws_FnExactBothOf.j0 k t259 bt273.2.2.2 (bt273.2.2.2 != t259) a0_0 l0_1 a0_2 a1_0 l1_1 a1_2 t254 t255 t258 bt261.1 bt261.2.1 bt261.2.2 bt267.1 bt267.2.1 bt267.2.2 bt273.1 bt273.2.1 bt273.2.2.1) else (laws_FnExactBothOf.j0 k t259 bt273.2.2.2 true a0_0 l0_1 a0_2 a1_0 l1_1 a1_2 t254 t255 t258 bt261.1 bt261.2.1 bt261.2.2 bt267.1 bt267.2.1 bt267.2.2 bt273.1 bt273.2.1 bt273.2.2.1)))))) = some r := H
   have A21 := Aside0.mk A210
   clear A210
   replace H := Option.bind_eq_some_iff.mp H
   obtain ⟨⟨t261, t262, t265⟩, A220, H⟩ := H
   replace H : ((laws_toDiagram.f k a1_0 l1_1 a1_2).bind fun bt267 => ((impl_BothOf.f k t261 t262 t265 bt267.1 bt267.2.1 bt267.2.2).bind fun bt273 => ((laws_eqDiagram.f k bt273.1 bt273.2.1 bt273.2.2.1 t254 t255 t258).bind fun t280 => (if t280 = true then (laws_FnExactBothOf.j0 k t259 bt273.2.2.2 (bt273.2.2.2 != t259) a0_0 l0_1 a0_2 a1_0 l1_1 a1_2 t254 t255 t258 t261 t262 t265 bt267.1 bt267.2.1 bt267.2.2 bt273.1 bt273.2.1 bt273.2.2.1) else (laws_FnExactBothOf.j0 k t259 bt273.2.2.2 true a0_0 l0_1 a0_2 a1_0 l1_1 a1_2 t254 t255 t258 t261 t262 t265 bt267.1 bt267.2.1 bt267.2.2 bt273.1 bt273.2.1 bt273.2.2.1))))) = some r := H
   have A22 := Aside0.mk A220
   clear A220
   replace H := Option.bind_eq_some_iff.mp H
   obtain ⟨⟨t267, t268, t271⟩, A230, H⟩ := H
   replace H : ((impl_BothOf.f k t261 t262 t265 t267 t268 t271).bind fun bt273 => ((laws_eqDiagram.f k bt273.1 bt273.2.1 bt273.2.2.1 t254 t255 t258).bind fun t280 => (if t280 = true then (laws_FnExactBothOf.j0 k t259 bt273.2.2.2 (bt273.2.2.2 != t259) a0_0 l0_1 a0_2 a1_0 l1_1 a1_2 t254 t255 t258 t261 t262 t265 t267 t268 t271 bt273.1 bt273.2.1 bt273.2.2.1) else (laws_FnExactBothOf.j0 k t259 bt273.2.2.2 true a0_0 l0_1 a0_2 a1_0 l1_1 a1_2 t254 t255 t258 t261 t262 t265 t267 t268 t271 bt273.1 bt273.2.1 bt273.2.2.1)))) = some r := H
   have A23 := Aside0.mk A230
   clear A230
   replace H := Option.bind_eq_some_iff.mp H
   obtain ⟨⟨t273, t274, t277, t278⟩, A240, H⟩ := H
   replace H : ((laws_eqDiagram.f k t273 t274 t277 t254 t255 t258).bind fun t280 => (if t280 = true then (laws_FnExactBothOf.j0 k t259 t278 (t278 != t259) a0_0 l0_1 a0_2 a1_0 l1_1 a1_2 t254 t255 t258 t261 t262 t265 t267 t268 t271 t273 t274 t277) else (laws_FnExactBothOf.j0 k t259 t278 true a0_0 l0_1 a0_2 a1_0 l1_1 a1_2 t254 t255 t258 t261 t262 t265 t267 t268 t271 t273 t274 t277))) = some r := H
   have A24 := Aside0.mk A240
   clear A240
   have HC25 := Aside0.mk H
   clear H
   go_enter Try.func7, Try.ntmps7
   try go_wp2_with (first | ((with_reducible refine gate_dst (N := 2) rfl ?_); refine boxq_ (N := 2) (cs := #[.int .i64 a0_0, .slice A0_1 l0_1.length c0_1, .int .i64 a0_2]) (t := 24) ?_; intro gb240 hg w26 hbox hb; have n0_ := Aside0.mk (below_step (bq_) hb); have n1_ := Aside0.mk (hbox); have n2_ := Aside0.mk ((by rw [hg]; exact (below_size (bq_)) : w.heap.size ≤ gb240)); have n3_ := Aside0.mk ((by rw [hg]; exact (below_size (bq_)) : w.heap.size ≤ gb240)); clear HB; have HB := n0_; have BK240 := n1_; have GW240 := n2_; have GE240 := n3_; clear n0_ n1_ n2_ n3_; clear hb hbox hg) | ((with_reducible refine gate_dst (N := 3) rfl ?_); refine boxq_ (N := 3) (cs := #[.int .i64 a1_0, .slice A1_1 l1_1.length c1_1, .int .i64 a1_2]) (t := 24) ?_; intro gb241 hg w27 hbox hb; have n0_ := Aside0.mk (blk_below (bk_ BK240.out) hb); have n1_ := Aside0.mk (below_step (bq_) hb); have n2_ := Aside0.mk (hbox); have n3_ := Aside0.mk ((by rw [hg]; exact (below_size (bq_)) : w.heap.size ≤ gb241)); have n4_ := Aside0.mk ((by rw [hg]; exact (below_size (bq_)) : w.heap.size ≤ gb241)); have n5_ := Aside0.mk ((by rw [hg]; exact Nat.ne_of_lt (blk_lt (bk_ BK240.out)) : gb240 ≠ gb241)); have n6_ := Aside0.mk ((by rw [hg]; exact Nat.ne_of_gt (blk_lt (bk_ BK240.out)) : gb241 ≠ gb240)); clear BK240; clear HB; have BK240 := n0_; have HB := n1_; have BK241 := n2_; have GW241 := n3_; have GE241 := n4_; have NB240_241 := n5_; have NB241_240 := n6_; clear n0_ n1_ n2_ n3_ n4_ n5_ n6_; clear hb hbox hg; have hnb28 := NB240_241.out; have hnc28 := NB241_240.out; have hcz29_0 := cq_ BK240.out 0 (.int .i64 a0_0); have hcz29_1 := cq_ BK240.out 1 (.slice A0_1 l0_1.length c0_1); have hcz29_2 := cq_ BK240.out 2 (.int .i64 a0_2); have hfz29_0 := blk_frozen BK240.out 0; have hfz29_1 := blk_frozen BK240.out 1; have hfz29_2 := blk_frozen BK240.out 2) | ((with_reducible refine gate_callee (f := 12) rfl ?_); refine goesL_ (some 19) rfl rfl Try.func12 (by kernel_rfl) rfl #[.agg #[.int .i64 a0_0, .slice A0_1 l0_1.length c0_1, .int .i64 a0_2], .int .i64 1048576] rfl (by (try simp only [List.map_toArray, List.map_cons, List.map_nil]); first | done | rfl | (simp only [List.length_drop, List.length_take]; rfl)) ?_; (with_reducible refine (laws_szDiagram.calls a0_0 _ _ l0_1 a0_2 1048576 t242 _ ?side1 ?side2 A3.out).mono ?_); (case side1 => repeat (first | exact (Kd.C_below HR0_1.out HB.out) | (with_reducible refine Kd.C_alloc ?_ _) | (with_reducible refine Kd.C_drewN ?_ _) | (with_reducible refine Kd.C_drew ?_))); (case side2 => exact HC0_1.out); rintro e w30 ⟨rfl, hb⟩; refine ⟨_, rfl, ?_⟩; have n0_ := Aside0.mk (blk_below (bk_ BK240.out) hb); have n1_ := Aside0.mk (blk_below (bk_ BK241.out) hb); have n2_ := Aside0.mk (below_step (bq_) hb); clear BK240; clear BK241; clear HB; have BK240 := n0_; have BK241 := n1_; have HB := n2_; clear n0_ n1_ n2_; (try clear hb); (try clear hb2); (try clear hk); (try clear hi); have hcz31_0 := cq_ BK241.out 0 (.int .i64 a1_0); have hcz31_1 := cq_ BK241.out 1 (.slice A1_1 l1_1.length c1_1); have hcz31_2 := cq_ BK241.out 2 (.int .i64 a1_2); have hfz31_0 := blk_frozen BK241.out 0; have hfz31_1 := blk_frozen BK241.out 1; have hfz31_2 := blk_frozen BK241.out 2) | ((with_reducible refine gate_callee (f := 12) rfl ?_); refine goesL_ (some 24) rfl rfl Try.func12 (by kernel_rfl) rfl #[.agg #[.int .i64 a1_0, .slice A1_1 l1_1.length c1_1, .int .i64 a1_2], .int .i64 t242] rfl (by (try simp only [List.map_toArray, List.map_cons, List.map_nil]); first | done | rfl | (simp only [List.length_drop, List.length_take]; rfl)) ?_; (with_reducible refine (laws_szDiagram.calls a1_0 _ _ l1_1 a1_2 t242 t243 _ ?side1 ?side2 A10.out).mono ?_); (case side1 => repeat (first | exact (Kd.C_below HR1_1.out HB.out) | (with_reducible refine Kd.C_alloc ?_ _) | (with_reducible refine Kd.C_drewN ?_ _) | (with_reducible refine Kd.C_drew ?_))); (case side2 => exact HC1_1.out); rintro e w32 ⟨rfl, hb⟩; refine ⟨_, rfl, ?_⟩; have n0_ := Aside0.mk (blk_below (bk_ BK240.out) hb); have n1_ := Aside0.mk (blk_below (bk_ BK241.out) hb); have n2_ := Aside0.mk (below_step (bq_) hb); clear BK240; clear BK241; clear HB; have BK240 := n0_; have BK241 := n1_; have HB := n2_; clear n0_ n1_ n2_; (try clear hb); (try clear hb2); (try clear hk); (try clear hi)))
   replace BK240 := Aside0.mk (blk_drew BK240.out)
   replace BK241 := Aside0.mk (blk_drew BK241.out)
   replace HB := Aside0.mk (below_drew1 HB.out)
   refine start_ (n := 11) (S := fun w' => w'.cell? ⟨gb240, 0, none⟩ = some (.int .i64 a0_0) ∧ w'.cell? ⟨gb240, 1, none⟩ = some (.slice A0_1 l0_1.length c0_1) ∧ w'.cell? ⟨gb240, 2, none⟩ = some (.int .i64 a0_2) ∧ w'.cell? ⟨gb241, 0, none⟩ = some (.int .i64 a1_0) ∧ w'.cell? ⟨gb241, 1, none⟩ = some (.slice A1_1 l1_1.length c1_1) ∧ w'.cell? ⟨gb241, 2, none⟩ = some (.int .i64 a1_2)) (ds := []) #[false, false, false, false, false, false, false, false, false, false, false] (by kernel_rfl) rfl rfl ⟨(blk_cell BK240.out 0).trans rfl, (blk_cell BK240.out 1).trans rfl, (blk_cell BK240.out 2).trans rfl, (blk_cell BK241.out 0).trans rfl, (blk_cell BK241.out 1).trans rfl, (blk_cell BK241.out 2).trans rfl⟩ (fun hHeld => ?_); refine with_tabW laws_FnExactBothOf.tab8 laws_FnExactBothOf.bits8 (fun HT_ HW_ => ?_)
   generalize w32.drew = w33 at BK240 BK241 HB hHeld ⊢
   refine take_ (i := 0) (N := some 28) (v := ?_) (a' := ?_) #[true, false, false, false, false, false, false, false, false, false, false] rfl rfl (take_ofW HT_.out HW_.out (by kernel_rfl)) (fun _ _ _ h => h) (Or.inl ⟨by rfl, ?_⟩) hHeld ?_ ?_
   rotate_left
   ·rintro w' ⟨s0, s1, s2, s3, s4, s5⟩
    go_simp
    with_reducible rfl
   rotate_left
   ·simp only [Act.put, List.setIfInBounds_toArray, List.set_cons_zero, List.set_cons_succ, i64_w, i32_w]
    rfl
   refine take_ (i := 2) (N := some 30) (v := ?_) (a' := ?_) #[true, false, true, false, false, false, false, false, false, false, false] rfl rfl (take_ofW HT_.out HW_.out (by kernel_rfl)) (fun _ _ _ h => h) (Or.inl ⟨by rfl, ?_⟩) hHeld ?_ ?_
   rotate_left
   ·rintro w' ⟨s0, s1, s2, s3, s4, s5⟩
    go_simp
    with_reducible rfl
   rotate_left
   ·simp only [Act.put, List.setIfInBounds_toArray, List.set_cons_zero, List.set_cons_succ, i64_w, i32_w]
    rfl
   refine join_ (σ := Value × Value × Value × Nat) 2 #[true, true, true, true, true, true, true, true, true, false, false] (fun s_ => [(29, .agg #[.int .i64 t244, s_.1, .int .i64 t248]), (31, .agg #[.int .i64 t249, s_.2.1, .int .i64 t253]), (32, .tuple #[.agg #[.int .i64 t254, s_.2.2.1, .int .i64 t258], .bool t259]), (6, .pointer (some ⟨s_.2.2.2, 0, none⟩)), (27, .tuple #[.agg #[.int .i64 t254, s_.2.2.1, .int .i64 t258], .bool t259]), (33, .agg #[.int .i64 t254, s_.2.2.1, .int .i64 t258]), (34, .bool t259)]) (fun s_ w' => (w'.cell? ⟨gb240, 0, none⟩ = some (.int .i64 a0_0) ∧ w'.cell? ⟨gb240, 1, none⟩ = some (.slice A0_1 l0_1.length c0_1) ∧ w'.cell? ⟨gb240, 2, none⟩ = some (.int .i64 a0_2) ∧ w'.cell? ⟨gb241, 0, none⟩ = some (.int .i64 a1_0) ∧ w'.cell? ⟨gb241, 1, none⟩ = some (.slice A1_1 l1_1.length c1_1) ∧ w'.cell? ⟨gb241, 2, none⟩ = some (.int .i64 a1_2)) ∧ (Kd.R k75 75 w' w.heap.size (fun k_ => some k_ ≠ (s_.2.1 : Value).ownBlock ∧ some k_ ≠ (s_.2.2.1 : Value).ownBlock) s_.1 t245) ∧ (Kd.R k75 75 w' w.heap.size (fun k_ => some k_ ≠ (s_.1 : Value).ownBlock ∧ some k_ ≠ (s_.2.2.1 : Value).ownBlock) s_.2.1 t250) ∧ (Kd.R k75 75 w' w.heap.size (fun k_ => some k_ ≠ (s_.1 : Value).ownBlock ∧ some k_ ≠ (s_.2.1 : Value).ownBlock) s_.2.2.1 t255) ∧ (w'.heap[gb240]? = some (.cells #[.int .i64 a0_0, .slice A0_1 l0_1.length c0_1, .int .i64 a0_2] 24 (0, 0))) ∧ (w'.heap[gb241]? = some (.cells #[.int .i64 a1_0, .slice A1_1 l1_1.length c1_1, .int .i64 a1_2] 24 (0, 0))) ∧ (w'.heap[s_.2.2.2]? = some (.cells #[.int .i64 0, .slice none 0 0, .int .i64 0] 30 (0, 0))) ∧ (w.heap.size ≤ s_.2.2.2) ∧ (w.heap.size ≤ s_.2.2.2) ∧ (gb240 ≠ s_.2.2.2) ∧ (s_.2.2.2 ≠ gb240) ∧ (gb241 ≠ s_.2.2.2) ∧ (s_.2.2.2 ≠ gb241) ∧ (Below w.heap.size w w')) ?_ ?_
   rotate_left
   ·intro hCont
    refine two_ (i := 1) (j := 8) (Ni := some 29) (Nj := some 6) #[true, true, true, false, false, false, false, false, false, false, false] #[true, false, true, false, false, false, false, false, true, false, false] rfl rfl rfl rfl (two_of HT_.out (by kernel_rfl)) (by decide) (by decide) (fun K hK => ?_) (fun K hK => ?_)
    ·skip
     refine goes_ Try.func14 (by kernel_rfl) rfl #[.agg #[.int .i64 a0_0, .slice A0_1 l0_1.length c0_1, .int .i64 a0_2]] (by rfl) rfl rfl (by (try simp only [List.map_toArray, List.map_cons, List.map_nil]); first | done | rfl | (simp only [List.length_drop, List.length_take]; rfl)) ?_
     with_reducible refine (laws_toDiagram.calls k a0_0 _ _ l0_1 a0_2 t244 t245 t248 _ ?side1 ?side2 A19.out).mono ?_
     (case side1 => repeat (first | exact (Kd.C_below HR0_1.out HB.out) | (with_reducible refine Kd.C_alloc ?_ _) | (with_reducible refine Kd.C_drewN ?_ _) | (with_reducible refine Kd.C_drew ?_)))
     (case side2 => exact HC0_1.out)
     rintro e w34 ⟨v246, rfl, ho0, hb⟩
     refine ⟨_, rfl, ?_⟩
     have HO247 := Aside0.mk (Kd.R_lower ho0 (below_size (bq_)))
     replace BK240 := Aside0.mk (blk_below (bk_ BK240.out) hb)
     replace BK241 := Aside0.mk (blk_below (bk_ BK241.out) hb)
     replace HB := Aside0.mk (below_step (bq_) hb)
     (try clear hb)
     (try clear hb2)
     (try clear hk)
     (try clear hi)
     (try clear ho0)
     refine hK.out _ _ ⟨(blk_cell BK240.out 0).trans rfl, (blk_cell BK240.out 1).trans rfl, (blk_cell BK240.out 2).trans rfl, (blk_cell BK241.out 0).trans rfl, (blk_cell BK241.out 1).trans rfl, (blk_cell BK241.out 2).trans rfl⟩ (fun hHeld => ?_)
     clear hK K
     refine norm_ (a' := ?_) ?_ ?_
     rotate_left
     ·show Act.put _ (some 29) _ = _
      simp only [Act.put, List.setIfInBounds_toArray, List.set_cons_zero, List.set_cons_succ, i64_w, i32_w]
      rfl
     refine two_ (i := 3) (j := 8) (Ni := some 31) (Nj := some 6) #[true, true, true, true, false, false, false, false, false, false, false] #[true, true, true, false, false, false, false, false, true, false, false] rfl rfl rfl rfl (two_of HT_.out (by kernel_rfl)) (by decide) (by decide) (fun K hK => ?_) (fun K hK => ?_)
     ·skip
      refine goes_ Try.func14 (by kernel_rfl) rfl #[.agg #[.int .i64 a1_0, .slice A1_1 l1_1.length c1_1, .int .i64 a1_2]] (by rfl) rfl rfl (by (try simp only [List.map_toArray, List.map_cons, List.map_nil]); first | done | rfl | (simp only [List.length_drop, List.length_take]; rfl)) ?_
      with_reducible refine (laws_toDiagram.calls k a1_0 _ _ l1_1 a1_2 t249 t250 t253 _ ?side1 ?side2 A20.out).mono ?_
      (case side1 => repeat (first | exact (Kd.C_below HR1_1.out HB.out) | (with_reducible refine Kd.C_alloc ?_ _) | (with_reducible refine Kd.C_drewN ?_ _) | (with_reducible refine Kd.C_drew ?_)))
      (case side2 => exact HC1_1.out)
      rintro e w35 ⟨v251, rfl, ho0, hb⟩
      refine ⟨_, rfl, ?_⟩
      have n0_ := Aside0.mk (Kd.R_elder' (rq_ HO247.out) (Kd.R_base ho0) hb)
      have n1_ := Aside0.mk (Kd.R_lower (Kd.R_new' ho0 (Kd.R_lt (rq_ HO247.out))) (below_size (bq_)))
      have n2_ := Aside0.mk (blk_below (bk_ BK240.out) hb)
      have n3_ := Aside0.mk (blk_below (bk_ BK241.out) hb)
      have n4_ := Aside0.mk (below_step (bq_) hb)
      clear HO247 BK240 BK241 HB
      have HO247 := n0_
      have HO252 := n1_
      have BK240 := n2_
      have BK241 := n3_
      have HB := n4_
      clear n0_ n1_ n2_ n3_ n4_
      (try clear hb)
      (try clear hb2)
      (try clear hk)
      (try clear hi)
      (try clear ho0)
      obtain ⟨Ao36, co36, eo36⟩ := Kd.R_slice HO247.out
      (first | subst eo36 | (injection eo36 with f1_ f2_ f3_; have f4_ := f1_.symm; have f5_ := f3_.symm; clear f1_ f2_ f3_; subst f4_; subst f5_))
      obtain ⟨Ao37, co37, eo37⟩ := Kd.R_slice HO252.out
      (first | subst eo37 | (injection eo37 with f1_ f2_ f3_; have f4_ := f1_.symm; have f5_ := f3_.symm; clear f1_ f2_ f3_; subst f4_; subst f5_))
      refine hK.out _ _ ⟨(blk_cell BK240.out 0).trans rfl, (blk_cell BK240.out 1).trans rfl, (blk_cell BK240.out 2).trans rfl, (blk_cell BK241.out 0).trans rfl, (blk_cell BK241.out 1).trans rfl, (blk_cell BK241.out 2).trans rfl⟩ (fun hHeld => ?_)
      clear hK K
      refine norm_ (a' := ?_) ?_ ?_
      rotate_left
      ·show Act.put _ (some 31) _ = _
       simp only [Act.put, List.setIfInBounds_toArray, List.set_cons_zero, List.set_cons_succ, i64_w, i32_w]
       rfl
      refine two_ (i := 4) (j := 8) (Ni := some 32) (Nj := some 6) #[true, true, true, true, true, false, false, false, false, false, false] #[true, true, true, true, false, false, false, false, true, false, false] rfl rfl rfl rfl (two_of HT_.out (by kernel_rfl)) (by decide) (by decide) (fun K hK => ?_) (fun K hK => ?_)
      ·skip
       refine goes_ Try.func29 (by kernel_rfl) rfl #[.agg #[.int .i64 t244, .slice Ao36 t245.length co36, .int .i64 t248], .agg #[.int .i64 t249, .slice Ao37 t250.length co37, .int .i64 t253]] (by rfl) rfl rfl (by (try simp only [List.map_toArray, List.map_cons, List.map_nil]); first | done | rfl | (simp only [List.length_drop, List.length_take]; rfl)) ?_
       with_reducible refine (spec_BothOf.calls k t244 _ _ t245 t248 t249 _ _ t250 t253 t254 t255 t258 t259 _ ?side1 ?side2 ?side3 ?side4 A21.out).mono ?_
       (case side1 => repeat (first | exact (Kd.R_reads' HO247.out).2.2 | (with_reducible refine Kd.C_alloc ?_ _) | (with_reducible refine Kd.C_drewN ?_ _) | (with_reducible refine Kd.C_drew ?_)))
       (case side2 => exact (Kd.R_reads' HO247.out).2.1)
       (case side3 => repeat (first | exact (Kd.R_reads' HO252.out).2.2 | (with_reducible refine Kd.C_alloc ?_ _) | (with_reducible refine Kd.C_drewN ?_ _) | (with_reducible refine Kd.C_drew ?_)))
       (case side4 => exact (Kd.R_reads' HO252.out).2.1)
       rintro e w38 ⟨v256, rfl, ho0, hb⟩
       refine ⟨_, rfl, ?_⟩
       have n0_ := Aside0.mk (Kd.R_elder' (rq_ HO247.out) (Kd.R_base ho0) hb)
       have n1_ := Aside0.mk (Kd.R_elder' (rq_ HO252.out) (Kd.R_base ho0) hb)
       have n2_ := Aside0.mk (Kd.R_lower (Kd.R_new' (Kd.R_new' ho0 (Kd.R_lt (rq_ HO247.out))) (Kd.R_lt (rq_ HO252.out))) (below_size (bq_)))
       have n3_ := Aside0.mk (blk_below (bk_ BK240.out) hb)
       have n4_ := Aside0.mk (blk_below (bk_ BK241.out) hb)
       have n5_ := Aside0.mk (below_step (bq_) hb)
       clear HO247 HO252 BK240 BK241 HB
       have HO247 := n0_
       have HO252 := n1_
       have HO257 := n2_
       have BK240 := n3_
       have BK241 := n4_
       have HB := n5_
       clear n0_ n1_ n2_ n3_ n4_ n5_
       (try clear hb)
       (try clear hb2)
       (try clear hk)
       (try clear hi)
       (try clear ho0)
       refine hK.out _ _ ⟨(blk_cell BK240.out 0).trans rfl, (blk_cell BK240.out 1).trans rfl, (blk_cell BK240.out 2).trans rfl, (blk_cell BK241.out 0).trans rfl, (blk_cell BK241.out 1).trans rfl, (blk_cell BK241.out 2).trans rfl⟩ (fun hHeld => ?_)
       clear hK K
       refine norm_ (a' := ?_) ?_ ?_
       rotate_left
       ·show Act.put _ (some 32) _ = _
        simp only [Act.put, List.setIfInBounds_toArray, List.set_cons_zero, List.set_cons_succ, i64_w, i32_w]
        rfl
       refine pure_ (i := 5) (N := some 27) (v := ?_) (a' := ?_) #[true, true, true, true, true, true, false, false, false, false, false] rfl rfl (any_of HT_.out (by kernel_rfl)) (fun _ _ _ h => h) (Or.inl ⟨by rfl, ?_⟩) ?_ ?_
       rotate_left
       ·intro w'
        go_simp
        with_reducible rfl
       rotate_left
       ·simp only [Act.put, List.setIfInBounds_toArray, List.set_cons_zero, List.set_cons_succ, i64_w, i32_w]
        rfl
       refine pure_ (i := 6) (N := some 33) (v := ?_) (a' := ?_) #[true, true, true, true, true, true, true, false, false, false, false] rfl rfl (any_of HT_.out (by kernel_rfl)) (fun _ _ _ h => h) (Or.inl ⟨by rfl, ?_⟩) ?_ ?_
       rotate_left
       ·intro w'
        go_simp
        with_reducible rfl
       rotate_left
       ·simp only [Act.put, List.setIfInBounds_toArray, List.set_cons_zero, List.set_cons_succ, i64_w, i32_w]
        rfl
       refine pure_ (i := 7) (N := some 34) (v := ?_) (a' := ?_) #[true, true, true, true, true, true, true, true, false, false, false] rfl rfl (any_of HT_.out (by kernel_rfl)) (fun _ _ _ h => h) (Or.inl ⟨by rfl, ?_⟩) ?_ ?_
       rotate_left
       ·intro w'
        go_simp
        with_reducible rfl
       rotate_left
       ·simp only [Act.put, List.setIfInBounds_toArray, List.set_cons_zero, List.set_cons_succ, i64_w, i32_w]
        rfl
       refine one_ (i := 8) (N := some 6) #[true, true, true, true, true, true, true, true, true, false, false] rfl rfl (one_of HT_.out (by kernel_rfl)) (by decide) (fun K hK => ?_)
       refine box_step ?hg (N := 6) ?hd (cs := #[.int .i64 0, .slice none 0 0, .int .i64 0]) (t := 30) ?hr ?_; (case hd => rfl); (case hg => rfl); (case hr => first | (go_simp; done) | (go_simp; rfl))
       intro gb260 hg w39 hbox hb
       have n0_ := Aside0.mk (Kd.R_below (rq_ HO247.out) hb)
       have n1_ := Aside0.mk (Kd.R_below (rq_ HO252.out) hb)
       have n2_ := Aside0.mk (Kd.R_below (rq_ HO257.out) hb)
       have n3_ := Aside0.mk (blk_below (bk_ BK240.out) hb)
       have n4_ := Aside0.mk (blk_below (bk_ BK241.out) hb)
       have n5_ := Aside0.mk (below_step (bq_) hb)
       have n6_ := Aside0.mk (hbox)
       have n7_ := Aside0.mk ((by rw [hg]; exact (below_size (bq_)) : w.heap.size ≤ gb260))
       have n8_ := Aside0.mk ((by rw [hg]; exact (below_size (bq_)) : w.heap.size ≤ gb260))
       have n9_ := Aside0.mk ((by rw [hg]; exact Nat.ne_of_lt (blk_lt (bk_ BK240.out)) : gb240 ≠ gb260))
       have n10_ := Aside0.mk ((by rw [hg]; exact Nat.ne_of_gt (blk_lt (bk_ BK240.out)) : gb260 ≠ gb240))
       have n11_ := Aside0.mk ((by rw [hg]; exact Nat.ne_of_lt (blk_lt (bk_ BK241.out)) : gb241 ≠ gb260))
       have n12_ := Aside0.mk ((by rw [hg]; exact Nat.ne_of_gt (blk_lt (bk_ BK241.out)) : gb260 ≠ gb241))
       clear HO247 HO252 HO257 BK240 BK241 HB
       have HO247 := n0_
       have HO252 := n1_
       have HO257 := n2_
       have BK240 := n3_
       have BK241 := n4_
       have HB := n5_
       have BK260 := n6_
       have GW260 := n7_
       have GE260 := n8_
       have NB240_260 := n9_
       have NB260_240 := n10_
       have NB241_260 := n11_
       have NB260_241 := n12_
       clear n0_ n1_ n2_ n3_ n4_ n5_ n6_ n7_ n8_ n9_ n10_ n11_ n12_ hb hbox hg
       refine hK.out _ _ ⟨(blk_cell BK240.out 0).trans rfl, (blk_cell BK240.out 1).trans rfl, (blk_cell BK240.out 2).trans rfl, (blk_cell BK241.out 0).trans rfl, (blk_cell BK241.out 1).trans rfl, (blk_cell BK241.out 2).trans rfl⟩ (fun hHeld => ?_)
       clear hK K
       refine norm_ (a' := ?_) ?_ ?_
       rotate_left
       ·show Act.put _ (some 6) _ = _
        simp only [Act.put, List.setIfInBounds_toArray, List.set_cons_zero, List.set_cons_succ, i64_w, i32_w]
        rfl
       exact norm_ (by simp only [putAll, Act.put, List.setIfInBounds_toArray, List.set_cons_zero, List.set_cons_succ]) (hCont (.slice Ao36 t245.length co36, .slice Ao37 t250.length co37, v256, gb260) _ ⟨hHeld, (rq_ (Kd.R_mono HO247.out (fun _ hk => ⟨hk.1.2, hk.2⟩))), (rq_ (Kd.R_mono HO252.out (fun _ hk => ⟨hk.1.2, hk.2⟩))), (rq_ (Kd.R_mono HO257.out (fun _ hk => ⟨hk.1.2, hk.2⟩))), (bk_ BK240.out), (bk_ BK241.out), (bk_ BK260.out), GW260.out, GE260.out, NB240_260.out, NB260_240.out, NB241_260.out, NB260_241.out, (bq_)⟩)
      ·skip
       refine box_step ?hg (N := 6) ?hd (cs := #[.int .i64 0, .slice none 0 0, .int .i64 0]) (t := 30) ?hr ?_; (case hd => rfl); (case hg => rfl); (case hr => first | (go_simp; done) | (go_simp; rfl))
       intro gb260 hg w36 hbox hb
       have n0_ := Aside0.mk (Kd.R_below (rq_ HO247.out) hb)
       have n1_ := Aside0.mk (Kd.R_below (rq_ HO252.out) hb)
       have n2_ := Aside0.mk (blk_below (bk_ BK240.out) hb)
       have n3_ := Aside0.mk (blk_below (bk_ BK241.out) hb)
       have n4_ := Aside0.mk (below_step (bq_) hb)
       have n5_ := Aside0.mk (hbox)
       have n6_ := Aside0.mk ((by rw [hg]; exact (below_size (bq_)) : w.heap.size ≤ gb260))
       have n7_ := Aside0.mk ((by rw [hg]; exact (below_size (bq_)) : w.heap.size ≤ gb260))
       have n8_ := Aside0.mk ((by rw [hg]; exact Nat.ne_of_lt (blk_lt (bk_ BK240.out)) : gb240 ≠ gb260))
       have n9_ := Aside0.mk ((by rw [hg]; exact Nat.ne_of_gt (blk_lt (bk_ BK240.out)) : gb260 ≠ gb240))
       have n10_ := Aside0.mk ((by rw [hg]; exact Nat.ne_of_lt (blk_lt (bk_ BK241.out)) : gb241 ≠ gb260))
       have n11_ := Aside0.mk ((by rw [hg]; exact Nat.ne_of_gt (blk_lt (bk_ BK241.out)) : gb260 ≠ gb241))
       clear HO247 HO252 BK240 BK241 HB
       have HO247 := n0_
       have HO252 := n1_
       have BK240 := n2_
       have BK241 := n3_
       have HB := n4_
       have BK260 := n5_
       have GW260 := n6_
       have GE260 := n7_
       have NB240_260 := n8_
       have NB260_240 := n9_
       have NB241_260 := n10_
       have NB260_241 := n11_
       clear n0_ n1_ n2_ n3_ n4_ n5_ n6_ n7_ n8_ n9_ n10_ n11_ hb hbox hg
       obtain ⟨Ao37, co37, eo37⟩ := Kd.R_slice HO247.out
       (first | subst eo37 | (injection eo37 with f1_ f2_ f3_; have f4_ := f1_.symm; have f5_ := f3_.symm; clear f1_ f2_ f3_; subst f4_; subst f5_))
       obtain ⟨Ao38, co38, eo38⟩ := Kd.R_slice HO252.out
       (first | subst eo38 | (injection eo38 with f1_ f2_ f3_; have f4_ := f1_.symm; have f5_ := f3_.symm; clear f1_ f2_ f3_; subst f4_; subst f5_))
       refine hK.out _ _ ⟨(blk_cell BK240.out 0).trans rfl, (blk_cell BK240.out 1).trans rfl, (blk_cell BK240.out 2).trans rfl, (blk_cell BK241.out 0).trans rfl, (blk_cell BK241.out 1).trans rfl, (blk_cell BK241.out 2).trans rfl⟩ (fun hHeld => ?_)
       clear hK K
       refine norm_ (a' := ?_) ?_ ?_
       rotate_left
       ·show Act.put _ (some 6) _ = _
        simp only [Act.put, List.setIfInBounds_toArray, List.set_cons_zero, List.set_cons_succ, i64_w, i32_w]
        rfl
       refine one_ (i := 4) (N := some 32) #[true, true, true, true, true, false, false, false, true, false, false] rfl rfl (one_of HT_.out (by kernel_rfl)) (by decide) (fun K hK => ?_)
       refine goes_ Try.func29 (by kernel_rfl) rfl #[.agg #[.int .i64 t244, .slice Ao37 t245.length co37, .int .i64 t248], .agg #[.int .i64 t249, .slice Ao38 t250.length co38, .int .i64 t253]] (by rfl) rfl rfl (by (try simp only [List.map_toArray, List.map_cons, List.map_nil]); first | done | rfl | (simp only [List.length_drop, List.length_take]; rfl)) ?_
       with_reducible refine (spec_BothOf.calls k t244 _ _ t245 t248 t249 _ _ t250 t253 t254 t255 t258 t259 _ ?side1 ?side2 ?side3 ?side4 A21.out).mono ?_
       (case side1 => repeat (first | exact (Kd.R_reads' HO247.out).2.2 | (with_reducible refine Kd.C_alloc ?_ _) | (with_reducible refine Kd.C_drewN ?_ _) | (with_reducible refine Kd.C_drew ?_)))
       (case side2 => exact (Kd.R_reads' HO247.out).2.1)
       (case side3 => repeat (first | exact (Kd.R_reads' HO252.out).2.2 | (with_reducible refine Kd.C_alloc ?_ _) | (with_reducible refine Kd.C_drewN ?_ _) | (with_reducible refine Kd.C_drew ?_)))
       (case side4 => exact (Kd.R_reads' HO252.out).2.1)
       rintro e w39 ⟨v256, rfl, ho0, hb⟩
       refine ⟨_, rfl, ?_⟩
       have n0_ := Aside0.mk (Kd.R_elder' (rq_ HO247.out) (Kd.R_base ho0) hb)
       have n1_ := Aside0.mk (Kd.R_elder' (rq_ HO252.out) (Kd.R_base ho0) hb)
       have n2_ := Aside0.mk (Kd.R_lower (Kd.R_new' (Kd.R_new' ho0 (Kd.R_lt (rq_ HO247.out))) (Kd.R_lt (rq_ HO252.out))) (below_size (bq_)))
       have n3_ := Aside0.mk (blk_below (bk_ BK240.out) hb)
       have n4_ := Aside0.mk (blk_below (bk_ BK241.out) hb)
       have n5_ := Aside0.mk (blk_below (bk_ BK260.out) hb)
       have n6_ := Aside0.mk (below_step (bq_) hb)
       clear HO247 HO252 BK240 BK241 BK260 HB
       have HO247 := n0_
       have HO252 := n1_
       have HO257 := n2_
       have BK240 := n3_
       have BK241 := n4_
       have BK260 := n5_
       have HB := n6_
       clear n0_ n1_ n2_ n3_ n4_ n5_ n6_
       (try clear hb)
       (try clear hb2)
       (try clear hk)
       (try clear hi)
       (try clear ho0)
       refine hK.out _ _ ⟨(blk_cell BK240.out 0).trans rfl, (blk_cell BK240.out 1).trans rfl, (blk_cell BK240.out 2).trans rfl, (blk_cell BK241.out 0).trans rfl, (blk_cell BK241.out 1).trans rfl, (blk_cell BK241.out 2).trans rfl⟩ (fun hHeld => ?_)
       clear hK K
       refine norm_ (a' := ?_) ?_ ?_
       rotate_left
       ·show Act.put _ (some 32) _ = _
        simp only [Act.put, List.setIfInBounds_toArray, List.set_cons_zero, List.set_cons_succ, i64_w, i32_w]
        rfl
       refine pure_ (i := 5) (N := some 27) (v := ?_) (a' := ?_) #[true, true, true, true, true, true, false, false, true, false, false] rfl rfl (any_of HT_.out (by kernel_rfl)) (fun _ _ _ h => h) (Or.inl ⟨by rfl, ?_⟩) ?_ ?_
       rotate_left
       ·intro w'
        go_simp
        with_reducible rfl
       rotate_left
       ·simp only [Act.put, List.setIfInBounds_toArray, List.set_cons_zero, List.set_cons_succ, i64_w, i32_w]
        rfl
       refine pure_ (i := 6) (N := some 33) (v := ?_) (a' := ?_) #[true, true, true, true, true, true, true, false, true, false, false] rfl rfl (any_of HT_.out (by kernel_rfl)) (fun _ _ _ h => h) (Or.inl ⟨by rfl, ?_⟩) ?_ ?_
       rotate_left
       ·intro w'
        go_simp
        with_reducible rfl
       rotate_left
       ·simp only [Act.put, List.setIfInBounds_toArray, List.set_cons_zero, List.set_cons_succ, i64_w, i32_w]
        rfl
       refine pure_ (i := 7) (N := some 34) (v := ?_) (a' := ?_) #[true, true, true, true, true, true, true, true, true, false, false] rfl rfl (any_of HT_.out (by kernel_rfl)) (fun _ _ _ h => h) (Or.inl ⟨by rfl, ?_⟩) ?_ ?_
       rotate_left
       ·intro w'
        go_simp
        with_reducible rfl
       rotate_left
       ·simp only [Act.put, List.setIfInBounds_toArray, List.set_cons_zero, List.set_cons_succ, i64_w, i32_w]
        rfl
       exact norm_ (by simp only [putAll, Act.put, List.setIfInBounds_toArray, List.set_cons_zero, List.set_cons_succ]) (hCont (.slice Ao37 t245.length co37, .slice Ao38 t250.length co38, v256, gb260) _ ⟨hHeld, (rq_ (Kd.R_mono HO247.out (fun _ hk => ⟨hk.1.2, hk.2⟩))), (rq_ (Kd.R_mono HO252.out (fun _ hk => ⟨hk.1.2, hk.2⟩))), (rq_ (Kd.R_mono HO257.out (fun _ hk => ⟨hk.1.2, hk.2⟩))), (bk_ BK240.out), (bk_ BK241.out), (bk_ BK260.out), GW260.out, GE260.out, NB240_260.out, NB260_240.out, NB241_260.out, NB260_241.out, (bq_)⟩)
     ·skip
      refine box_step ?hg (N := 6) ?hd (cs := #[.int .i64 0, .slice none 0 0, .int .i64 0]) (t := 30) ?hr ?_; (case hd => rfl); (case hg => rfl); (case hr => first | (go_simp; done) | (go_simp; rfl))
      intro gb260 hg w35 hbox hb
      have n0_ := Aside0.mk (Kd.R_below (rq_ HO247.out) hb)
      have n1_ := Aside0.mk (blk_below (bk_ BK240.out) hb)
      have n2_ := Aside0.mk (blk_below (bk_ BK241.out) hb)
      have n3_ := Aside0.mk (below_step (bq_) hb)
      have n4_ := Aside0.mk (hbox)
      have n5_ := Aside0.mk ((by rw [hg]; exact (below_size (bq_)) : w.heap.size ≤ gb260))
      have n6_ := Aside0.mk ((by rw [hg]; exact (below_size (bq_)) : w.heap.size ≤ gb260))
      have n7_ := Aside0.mk ((by rw [hg]; exact Nat.ne_of_lt (blk_lt (bk_ BK240.out)) : gb240 ≠ gb260))
      have n8_ := Aside0.mk ((by rw [hg]; exact Nat.ne_of_gt (blk_lt (bk_ BK240.out)) : gb260 ≠ gb240))
      have n9_ := Aside0.mk ((by rw [hg]; exact Nat.ne_of_lt (blk_lt (bk_ BK241.out)) : gb241 ≠ gb260))
      have n10_ := Aside0.mk ((by rw [hg]; exact Nat.ne_of_gt (blk_lt (bk_ BK241.out)) : gb260 ≠ gb241))
      clear HO247 BK240 BK241 HB
      have HO247 := n0_
      have BK240 := n1_
      have BK241 := n2_
      have HB := n3_
      have BK260 := n4_
      have GW260 := n5_
      have GE260 := n6_
      have NB240_260 := n7_
      have NB260_240 := n8_
      have NB241_260 := n9_
      have NB260_241 := n10_
      clear n0_ n1_ n2_ n3_ n4_ n5_ n6_ n7_ n8_ n9_ n10_ hb hbox hg
      refine hK.out _ _ ⟨(blk_cell BK240.out 0).trans rfl, (blk_cell BK240.out 1).trans rfl, (blk_cell BK240.out 2).trans rfl, (blk_cell BK241.out 0).trans rfl, (blk_cell BK241.out 1).trans rfl, (blk_cell BK241.out 2).trans rfl⟩ (fun hHeld => ?_)
      clear hK K
      refine norm_ (a' := ?_) ?_ ?_
      rotate_left
      ·show Act.put _ (some 6) _ = _
       simp only [Act.put, List.setIfInBounds_toArray, List.set_cons_zero, List.set_cons_succ, i64_w, i32_w]
       rfl
      refine one_ (i := 3) (N := some 31) #[true, true, true, true, false, false, false, false, true, false, false] rfl rfl (one_of HT_.out (by kernel_rfl)) (by decide) (fun K hK => ?_)
      refine goes_ Try.func14 (by kernel_rfl) rfl #[.agg #[.int .i64 a1_0, .slice A1_1 l1_1.length c1_1, .int .i64 a1_2]] (by rfl) rfl rfl (by (try simp only [List.map_toArray, List.map_cons, List.map_nil]); first | done | rfl | (simp only [List.length_drop, List.length_take]; rfl)) ?_
      with_reducible refine (laws_toDiagram.calls k a1_0 _ _ l1_1 a1_2 t249 t250 t253 _ ?side1 ?side2 A20.out).mono ?_
      (case side1 => repeat (first | exact (Kd.C_below HR1_1.out HB.out) | (with_reducible refine Kd.C_alloc ?_ _) | (with_reducible refine Kd.C_drewN ?_ _) | (with_reducible refine Kd.C_drew ?_)))
      (case side2 => exact HC1_1.out)
      rintro e w36 ⟨v251, rfl, ho0, hb⟩
      refine ⟨_, rfl, ?_⟩
      have n0_ := Aside0.mk (Kd.R_elder' (rq_ HO247.out) (Kd.R_base ho0) hb)
      have n1_ := Aside0.mk (Kd.R_lower (Kd.R_new' ho0 (Kd.R_lt (rq_ HO247.out))) (below_size (bq_)))
      have n2_ := Aside0.mk (blk_below (bk_ BK240.out) hb)
      have n3_ := Aside0.mk (blk_below (bk_ BK241.out) hb)
      have n4_ := Aside0.mk (blk_below (bk_ BK260.out) hb)
      have n5_ := Aside0.mk (below_step (bq_) hb)
      clear HO247 BK240 BK241 BK260 HB
      have HO247 := n0_
      have HO252 := n1_
      have BK240 := n2_
      have BK241 := n3_
      have BK260 := n4_
      have HB := n5_
      clear n0_ n1_ n2_ n3_ n4_ n5_
      (try clear hb)
      (try clear hb2)
      (try clear hk)
      (try clear hi)
      (try clear ho0)
      obtain ⟨Ao37, co37, eo37⟩ := Kd.R_slice HO247.out
      (first | subst eo37 | (injection eo37 with f1_ f2_ f3_; have f4_ := f1_.symm; have f5_ := f3_.symm; clear f1_ f2_ f3_; subst f4_; subst f5_))
      obtain ⟨Ao38, co38, eo38⟩ := Kd.R_slice HO252.out
      (first | subst eo38 | (injection eo38 with f1_ f2_ f3_; have f4_ := f1_.symm; have f5_ := f3_.symm; clear f1_ f2_ f3_; subst f4_; subst f5_))
      refine hK.out _ _ ⟨(blk_cell BK240.out 0).trans rfl, (blk_cell BK240.out 1).trans rfl, (blk_cell BK240.out 2).trans rfl, (blk_cell BK241.out 0).trans rfl, (blk_cell BK241.out 1).trans rfl, (blk_cell BK241.out 2).trans rfl⟩ (fun hHeld => ?_)
      clear hK K
      refine norm_ (a' := ?_) ?_ ?_
      rotate_left
      ·show Act.put _ (some 31) _ = _
       simp only [Act.put, List.setIfInBounds_toArray, List.set_cons_zero, List.set_cons_succ, i64_w, i32_w]
       rfl
      refine one_ (i := 4) (N := some 32) #[true, true, true, true, true, false, false, false, true, false, false] rfl rfl (one_of HT_.out (by kernel_rfl)) (by decide) (fun K hK => ?_)
      refine goes_ Try.func29 (by kernel_rfl) rfl #[.agg #[.int .i64 t244, .slice Ao37 t245.length co37, .int .i64 t248], .agg #[.int .i64 t249, .slice Ao38 t250.length co38, .int .i64 t253]] (by rfl) rfl rfl (by (try simp only [List.map_toArray, List.map_cons, List.map_nil]); first | done | rfl | (simp only [List.length_drop, List.length_take]; rfl)) ?_
      with_reducible refine (spec_BothOf.calls k t244 _ _ t245 t248 t249 _ _ t250 t253 t254 t255 t258 t259 _ ?side1 ?side2 ?side3 ?side4 A21.out).mono ?_
      (case side1 => repeat (first | exact (Kd.R_reads' HO247.out).2.2 | (with_reducible refine Kd.C_alloc ?_ _) | (with_reducible refine Kd.C_drewN ?_ _) | (with_reducible refine Kd.C_drew ?_)))
      (case side2 => exact (Kd.R_reads' HO247.out).2.1)
      (case side3 => repeat (first | exact (Kd.R_reads' HO252.out).2.2 | (with_reducible refine Kd.C_alloc ?_ _) | (with_reducible refine Kd.C_drewN ?_ _) | (with_reducible refine Kd.C_drew ?_)))
      (case side4 => exact (Kd.R_reads' HO252.out).2.1)
      rintro e w39 ⟨v256, rfl, ho0, hb⟩
      refine ⟨_, rfl, ?_⟩
      have n0_ := Aside0.mk (Kd.R_elder' (rq_ HO247.out) (Kd.R_base ho0) hb)
      have n1_ := Aside0.mk (Kd.R_elder' (rq_ HO252.out) (Kd.R_base ho0) hb)
      have n2_ := Aside0.mk (Kd.R_lower (Kd.R_new' (Kd.R_new' ho0 (Kd.R_lt (rq_ HO247.out))) (Kd.R_lt (rq_ HO252.out))) (below_size (bq_)))
      have n3_ := Aside0.mk (blk_below (bk_ BK240.out) hb)
      have n4_ := Aside0.mk (blk_below (bk_ BK241.out) hb)
      have n5_ := Aside0.mk (blk_below (bk_ BK260.out) hb)
      have n6_ := Aside0.mk (below_step (bq_) hb)
      clear HO247 HO252 BK240 BK241 BK260 HB
      have HO247 := n0_
      have HO252 := n1_
      have HO257 := n2_
      have BK240 := n3_
      have BK241 := n4_
      have BK260 := n5_
      have HB := n6_
      clear n0_ n1_ n2_ n3_ n4_ n5_ n6_
      (try clear hb)
      (try clear hb2)
      (try clear hk)
      (try clear hi)
      (try clear ho0)
      refine hK.out _ _ ⟨(blk_cell BK240.out 0).trans rfl, (blk_cell BK240.out 1).trans rfl, (blk_cell BK240.out 2).trans rfl, (blk_cell BK241.out 0).trans rfl, (blk_cell BK241.out 1).trans rfl, (blk_cell BK241.out 2).trans rfl⟩ (fun hHeld => ?_)
      clear hK K
      refine norm_ (a' := ?_) ?_ ?_
      rotate_left
      ·show Act.put _ (some 32) _ = _
       simp only [Act.put, List.setIfInBounds_toArray, List.set_cons_zero, List.set_cons_succ, i64_w, i32_w]
       rfl
      refine pure_ (i := 5) (N := some 27) (v := ?_) (a' := ?_) #[true, true, true, true, true, true, false, false, true, false, false] rfl rfl (any_of HT_.out (by kernel_rfl)) (fun _ _ _ h => h) (Or.inl ⟨by rfl, ?_⟩) ?_ ?_
      rotate_left
      ·intro w'
       go_simp
       with_reducible rfl
      rotate_left
      ·simp only [Act.put, List.setIfInBounds_toArray, List.set_cons_zero, List.set_cons_succ, i64_w, i32_w]
       rfl
      refine pure_ (i := 6) (N := some 33) (v := ?_) (a' := ?_) #[true, true, true, true, true, true, true, false, true, false, false] rfl rfl (any_of HT_.out (by kernel_rfl)) (fun _ _ _ h => h) (Or.inl ⟨by rfl, ?_⟩) ?_ ?_
      rotate_left
      ·intro w'
       go_simp
       with_reducible rfl
      rotate_left
      ·simp only [Act.put, List.setIfInBounds_toArray, List.set_cons_zero, List.set_cons_succ, i64_w, i32_w]
       rfl
      refine pure_ (i := 7) (N := some 34) (v := ?_) (a' := ?_) #[true, true, true, true, true, true, true, true, true, false, false] rfl rfl (any_of HT_.out (by kernel_rfl)) (fun _ _ _ h => h) (Or.inl ⟨by rfl, ?_⟩) ?_ ?_
      rotate_left
      ·intro w'
       go_simp
       with_reducible rfl
      rotate_left
      ·simp only [Act.put, List.setIfInBounds_toArray, List.set_cons_zero, List.set_cons_succ, i64_w, i32_w]
       rfl
      exact norm_ (by simp only [putAll, Act.put, List.setIfInBounds_toArray, List.set_cons_zero, List.set_cons_succ]) (hCont (.slice Ao37 t245.length co37, .slice Ao38 t250.length co38, v256, gb260) _ ⟨hHeld, (rq_ (Kd.R_mono HO247.out (fun _ hk => ⟨hk.1.2, hk.2⟩))), (rq_ (Kd.R_mono HO252.out (fun _ hk => ⟨hk.1.2, hk.2⟩))), (rq_ (Kd.R_mono HO257.out (fun _ hk => ⟨hk.1.2, hk.2⟩))), (bk_ BK240.out), (bk_ BK241.out), (bk_ BK260.out), GW260.out, GE260.out, NB240_260.out, NB260_240.out, NB241_260.out, NB260_241.out, (bq_)⟩)
    ·skip
     refine box_step ?hg (N := 6) ?hd (cs := #[.int .i64 0, .slice none 0 0, .int .i64 0]) (t := 30) ?hr ?_; (case hd => rfl); (case hg => rfl); (case hr => first | (go_simp; done) | (go_simp; rfl))
     intro gb260 hg w34 hbox hb
     have n0_ := Aside0.mk (blk_below (bk_ BK240.out) hb)
     have n1_ := Aside0.mk (blk_below (bk_ BK241.out) hb)
     have n2_ := Aside0.mk (below_step (bq_) hb)
     have n3_ := Aside0.mk (hbox)
     have n4_ := Aside0.mk ((by rw [hg]; exact (below_size (bq_)) : w.heap.size ≤ gb260))
     have n5_ := Aside0.mk ((by rw [hg]; exact (below_size (bq_)) : w.heap.size ≤ gb260))
     have n6_ := Aside0.mk ((by rw [hg]; exact Nat.ne_of_lt (blk_lt (bk_ BK240.out)) : gb240 ≠ gb260))
     have n7_ := Aside0.mk ((by rw [hg]; exact Nat.ne_of_gt (blk_lt (bk_ BK240.out)) : gb260 ≠ gb240))
     have n8_ := Aside0.mk ((by rw [hg]; exact Nat.ne_of_lt (blk_lt (bk_ BK241.out)) : gb241 ≠ gb260))
     have n9_ := Aside0.mk ((by rw [hg]; exact Nat.ne_of_gt (blk_lt (bk_ BK241.out)) : gb260 ≠ gb241))
     clear BK240 BK241 HB
     have BK240 := n0_
     have BK241 := n1_
     have HB := n2_
     have BK260 := n3_
     have GW260 := n4_
     have GE260 := n5_
     have NB240_260 := n6_
     have NB260_240 := n7_
     have NB241_260 := n8_
     have NB260_241 := n9_
     clear n0_ n1_ n2_ n3_ n4_ n5_ n6_ n7_ n8_ n9_ hb hbox hg
     refine hK.out _ _ ⟨(blk_cell BK240.out 0).trans rfl, (blk_cell BK240.out 1).trans rfl, (blk_cell BK240.out 2).trans rfl, (blk_cell BK241.out 0).trans rfl, (blk_cell BK241.out 1).trans rfl, (blk_cell BK241.out 2).trans rfl⟩ (fun hHeld => ?_)
     clear hK K
     refine norm_ (a' := ?_) ?_ ?_
     rotate_left
     ·show Act.put _ (some 6) _ = _
      simp only [Act.put, List.setIfInBounds_toArray, List.set_cons_zero, List.set_cons_succ, i64_w, i32_w]
      rfl
     refine one_ (i := 1) (N := some 29) #[true, true, true, false, false, false, false, false, true, false, false] rfl rfl (one_of HT_.out (by kernel_rfl)) (by decide) (fun K hK => ?_)
     refine goes_ Try.func14 (by kernel_rfl) rfl #[.agg #[.int .i64 a0_0, .slice A0_1 l0_1.length c0_1, .int .i64 a0_2]] (by rfl) rfl rfl (by (try simp only [List.map_toArray, List.map_cons, List.map_nil]); first | done | rfl | (simp only [List.length_drop, List.length_take]; rfl)) ?_
     with_reducible refine (laws_toDiagram.calls k a0_0 _ _ l0_1 a0_2 t244 t245 t248 _ ?side1 ?side2 A19.out).mono ?_
     (case side1 => repeat (first | exact (Kd.C_below HR0_1.out HB.out) | (with_reducible refine Kd.C_alloc ?_ _) | (with_reducible refine Kd.C_drewN ?_ _) | (with_reducible refine Kd.C_drew ?_)))
     (case side2 => exact HC0_1.out)
     rintro e w35 ⟨v246, rfl, ho0, hb⟩
     refine ⟨_, rfl, ?_⟩
     have HO247 := Aside0.mk (Kd.R_lower ho0 (below_size (bq_)))
     replace BK240 := Aside0.mk (blk_below (bk_ BK240.out) hb)
     replace BK241 := Aside0.mk (blk_below (bk_ BK241.out) hb)
     replace BK260 := Aside0.mk (blk_below (bk_ BK260.out) hb)
     replace HB := Aside0.mk (below_step (bq_) hb)
     (try clear hb)
     (try clear hb2)
     (try clear hk)
     (try clear hi)
     (try clear ho0)
     refine hK.out _ _ ⟨(blk_cell BK240.out 0).trans rfl, (blk_cell BK240.out 1).trans rfl, (blk_cell BK240.out 2).trans rfl, (blk_cell BK241.out 0).trans rfl, (blk_cell BK241.out 1).trans rfl, (blk_cell BK241.out 2).trans rfl⟩ (fun hHeld => ?_)
     clear hK K
     refine norm_ (a' := ?_) ?_ ?_
     rotate_left
     ·show Act.put _ (some 29) _ = _
      simp only [Act.put, List.setIfInBounds_toArray, List.set_cons_zero, List.set_cons_succ, i64_w, i32_w]
      rfl
     refine one_ (i := 3) (N := some 31) #[true, true, true, true, false, false, false, false, true, false, false] rfl rfl (one_of HT_.out (by kernel_rfl)) (by decide) (fun K hK => ?_)
     refine goes_ Try.func14 (by kernel_rfl) rfl #[.agg #[.int .i64 a1_0, .slice A1_1 l1_1.length c1_1, .int .i64 a1_2]] (by rfl) rfl rfl (by (try simp only [List.map_toArray, List.map_cons, List.map_nil]); first | done | rfl | (simp only [List.length_drop, List.length_take]; rfl)) ?_
     with_reducible refine (laws_toDiagram.calls k a1_0 _ _ l1_1 a1_2 t249 t250 t253 _ ?side1 ?side2 A20.out).mono ?_
     (case side1 => repeat (first | exact (Kd.C_below HR1_1.out HB.out) | (with_reducible refine Kd.C_alloc ?_ _) | (with_reducible refine Kd.C_drewN ?_ _) | (with_reducible refine Kd.C_drew ?_)))
     (case side2 => exact HC1_1.out)
     rintro e w36 ⟨v251, rfl, ho0, hb⟩
     refine ⟨_, rfl, ?_⟩
     have n0_ := Aside0.mk (Kd.R_elder' (rq_ HO247.out) (Kd.R_base ho0) hb)
     have n1_ := Aside0.mk (Kd.R_lower (Kd.R_new' ho0 (Kd.R_lt (rq_ HO247.out))) (below_size (bq_)))
     have n2_ := Aside0.mk (blk_below (bk_ BK240.out) hb)
     have n3_ := Aside0.mk (blk_below (bk_ BK241.out) hb)
     have n4_ := Aside0.mk (blk_below (bk_ BK260.out) hb)
     have n5_ := Aside0.mk (below_step (bq_) hb)
     clear HO247 BK240 BK241 BK260 HB
     have HO247 := n0_
     have HO252 := n1_
     have BK240 := n2_
     have BK241 := n3_
     have BK260 := n4_
     have HB := n5_
     clear n0_ n1_ n2_ n3_ n4_ n5_
     (try clear hb)
     (try clear hb2)
     (try clear hk)
     (try clear hi)
     (try clear ho0)
     obtain ⟨Ao37, co37, eo37⟩ := Kd.R_slice HO247.out
     (first | subst eo37 | (injection eo37 with f1_ f2_ f3_; have f4_ := f1_.symm; have f5_ := f3_.symm; clear f1_ f2_ f3_; subst f4_; subst f5_))
     obtain ⟨Ao38, co38, eo38⟩ := Kd.R_slice HO252.out
     (first | subst eo38 | (injection eo38 with f1_ f2_ f3_; have f4_ := f1_.symm; have f5_ := f3_.symm; clear f1_ f2_ f3_; subst f4_; subst f5_))
     refine hK.out _ _ ⟨(blk_cell BK240.out 0).trans rfl, (blk_cell BK240.out 1).trans rfl, (blk_cell BK240.out 2).trans rfl, (blk_cell BK241.out 0).trans rfl, (blk_cell BK241.out 1).trans rfl, (blk_cell BK241.out 2).trans rfl⟩ (fun hHeld => ?_)
     clear hK K
     refine norm_ (a' := ?_) ?_ ?_
     rotate_left
     ·show Act.put _ (some 31) _ = _
      simp only [Act.put, List.setIfInBounds_toArray, List.set_cons_zero, List.set_cons_succ, i64_w, i32_w]
      rfl
     refine one_ (i := 4) (N := some 32) #[true, true, true, true, true, false, false, false, true, false, false] rfl rfl (one_of HT_.out (by kernel_rfl)) (by decide) (fun K hK => ?_)
     refine goes_ Try.func29 (by kernel_rfl) rfl #[.agg #[.int .i64 t244, .slice Ao37 t245.length co37, .int .i64 t248], .agg #[.int .i64 t249, .slice Ao38 t250.length co38, .int .i64 t253]] (by rfl) rfl rfl (by (try simp only [List.map_toArray, List.map_cons, List.map_nil]); first | done | rfl | (simp only [List.length_drop, List.length_take]; rfl)) ?_
     with_reducible refine (spec_BothOf.calls k t244 _ _ t245 t248 t249 _ _ t250 t253 t254 t255 t258 t259 _ ?side1 ?side2 ?side3 ?side4 A21.out).mono ?_
     (case side1 => repeat (first | exact (Kd.R_reads' HO247.out).2.2 | (with_reducible refine Kd.C_alloc ?_ _) | (with_reducible refine Kd.C_drewN ?_ _) | (with_reducible refine Kd.C_drew ?_)))
     (case side2 => exact (Kd.R_reads' HO247.out).2.1)
     (case side3 => repeat (first | exact (Kd.R_reads' HO252.out).2.2 | (with_reducible refine Kd.C_alloc ?_ _) | (with_reducible refine Kd.C_drewN ?_ _) | (with_reducible refine Kd.C_drew ?_)))
     (case side4 => exact (Kd.R_reads' HO252.out).2.1)
     rintro e w39 ⟨v256, rfl, ho0, hb⟩
     refine ⟨_, rfl, ?_⟩
     have n0_ := Aside0.mk (Kd.R_elder' (rq_ HO247.out) (Kd.R_base ho0) hb)
     have n1_ := Aside0.mk (Kd.R_elder' (rq_ HO252.out) (Kd.R_base ho0) hb)
     have n2_ := Aside0.mk (Kd.R_lower (Kd.R_new' (Kd.R_new' ho0 (Kd.R_lt (rq_ HO247.out))) (Kd.R_lt (rq_ HO252.out))) (below_size (bq_)))
     have n3_ := Aside0.mk (blk_below (bk_ BK240.out) hb)
     have n4_ := Aside0.mk (blk_below (bk_ BK241.out) hb)
     have n5_ := Aside0.mk (blk_below (bk_ BK260.out) hb)
     have n6_ := Aside0.mk (below_step (bq_) hb)
     clear HO247 HO252 BK240 BK241 BK260 HB
     have HO247 := n0_
     have HO252 := n1_
     have HO257 := n2_
     have BK240 := n3_
     have BK241 := n4_
     have BK260 := n5_
     have HB := n6_
     clear n0_ n1_ n2_ n3_ n4_ n5_ n6_
     (try clear hb)
     (try clear hb2)
     (try clear hk)
     (try clear hi)
     (try clear ho0)
     refine hK.out _ _ ⟨(blk_cell BK240.out 0).trans rfl, (blk_cell BK240.out 1).trans rfl, (blk_cell BK240.out 2).trans rfl, (blk_cell BK241.out 0).trans rfl, (blk_cell BK241.out 1).trans rfl, (blk_cell BK241.out 2).trans rfl⟩ (fun hHeld => ?_)
     clear hK K
     refine norm_ (a' := ?_) ?_ ?_
     rotate_left
     ·show Act.put _ (some 32) _ = _
      simp only [Act.put, List.setIfInBounds_toArray, List.set_cons_zero, List.set_cons_succ, i64_w, i32_w]
      rfl
     refine pure_ (i := 5) (N := some 27) (v := ?_) (a' := ?_) #[true, true, true, true, true, true, false, false, true, false, false] rfl rfl (any_of HT_.out (by kernel_rfl)) (fun _ _ _ h => h) (Or.inl ⟨by rfl, ?_⟩) ?_ ?_
     rotate_left
     ·intro w'
      go_simp
      with_reducible rfl
     rotate_left
     ·simp only [Act.put, List.setIfInBounds_toArray, List.set_cons_zero, List.set_cons_succ, i64_w, i32_w]
      rfl
     refine pure_ (i := 6) (N := some 33) (v := ?_) (a' := ?_) #[true, true, true, true, true, true, true, false, true, false, false] rfl rfl (any_of HT_.out (by kernel_rfl)) (fun _ _ _ h => h) (Or.inl ⟨by rfl, ?_⟩) ?_ ?_
     rotate_left
     ·intro w'
      go_simp
      with_reducible rfl
     rotate_left
     ·simp only [Act.put, List.setIfInBounds_toArray, List.set_cons_zero, List.set_cons_succ, i64_w, i32_w]
      rfl
     refine pure_ (i := 7) (N := some 34) (v := ?_) (a' := ?_) #[true, true, true, true, true, true, true, true, true, false, false] rfl rfl (any_of HT_.out (by kernel_rfl)) (fun _ _ _ h => h) (Or.inl ⟨by rfl, ?_⟩) ?_ ?_
     rotate_left
     ·intro w'
      go_simp
      with_reducible rfl
     rotate_left
     ·simp only [Act.put, List.setIfInBounds_toArray, List.set_cons_zero, List.set_cons_succ, i64_w, i32_w]
      rfl
     exact norm_ (by simp only [putAll, Act.put, List.setIfInBounds_toArray, List.set_cons_zero, List.set_cons_succ]) (hCont (.slice Ao37 t245.length co37, .slice Ao38 t250.length co38, v256, gb260) _ ⟨hHeld, (rq_ (Kd.R_mono HO247.out (fun _ hk => ⟨hk.1.2, hk.2⟩))), (rq_ (Kd.R_mono HO252.out (fun _ hk => ⟨hk.1.2, hk.2⟩))), (rq_ (Kd.R_mono HO257.out (fun _ hk => ⟨hk.1.2, hk.2⟩))), (bk_ BK240.out), (bk_ BK241.out), (bk_ BK260.out), GW260.out, GE260.out, NB240_260.out, NB260_240.out, NB241_260.out, NB260_241.out, (bq_)⟩)
   rintro ⟨v246, v251, v256, gb260⟩ w40 ⟨hS_, h0_, h1_, h2_, h3_, h4_, h5_, h6_, h7_, h8_, h9_, h10_, h11_, h12_⟩
   have n0_ : Aside0 (Kd.R k75 75 w40 w.heap.size (fun k_ => some k_ ≠ (v251 : Value).ownBlock ∧ some k_ ≠ (v256 : Value).ownBlock) v246 t245) := ⟨h0_⟩
   have n1_ : Aside0 (Kd.R k75 75 w40 w.heap.size (fun k_ => some k_ ≠ (v246 : Value).ownBlock ∧ some k_ ≠ (v256 : Value).ownBlock) v251 t250) := ⟨h1_⟩
   have n2_ : Aside0 (Kd.R k75 75 w40 w.heap.size (fun k_ => some k_ ≠ (v246 : Value).ownBlock ∧ some k_ ≠ (v251 : Value).ownBlock) v256 t255) := ⟨h2_⟩
   have n3_ : Aside0 (w40.heap[gb240]? = some (.cells #[.int .i64 a0_0, .slice A0_1 l0_1.length c0_1, .int .i64 a0_2] 24 (0, 0))) := ⟨h3_⟩
   have n4_ : Aside0 (w40.heap[gb241]? = some (.cells #[.int .i64 a1_0, .slice A1_1 l1_1.length c1_1, .int .i64 a1_2] 24 (0, 0))) := ⟨h4_⟩
   have n5_ : Aside0 (w40.heap[gb260]? = some (.cells #[.int .i64 0, .slice none 0 0, .int .i64 0] 30 (0, 0))) := ⟨h5_⟩
   have n6_ : Aside0 (w.heap.size ≤ gb260) := ⟨h6_⟩
   have n7_ : Aside0 (w.heap.size ≤ gb260) := ⟨h7_⟩
   have n8_ : Aside0 (gb240 ≠ gb260) := ⟨h8_⟩
   have n9_ : Aside0 (gb260 ≠ gb240) := ⟨h9_⟩
   have n10_ : Aside0 (gb241 ≠ gb260) := ⟨h10_⟩
   have n11_ : Aside0 (gb260 ≠ gb241) := ⟨h11_⟩
   have n12_ : Aside0 (Below w.heap.size w w40) := ⟨h12_⟩
   clear BK240 BK241 HB h0_ h1_ h2_ h3_ h4_ h5_ h6_ h7_ h8_ h9_ h10_ h11_ h12_
   have HO247 := n0_
   have HO252 := n1_
   have HO257 := n2_
   have BK240 := n3_
   have BK241 := n4_
   have BK260 := n5_
   have GW260 := n6_
   have GE260 := n7_
   have NB240_260 := n8_
   have NB260_240 := n9_
   have NB241_260 := n10_
   have NB260_241 := n11_
   have HB := n12_
   clear n0_ n1_ n2_ n3_ n4_ n5_ n6_ n7_ n8_ n9_ n10_ n11_ n12_
   have hHeld : w40.cell? ⟨gb240, 0, none⟩ = some (.int .i64 a0_0) ∧ w40.cell? ⟨gb240, 1, none⟩ = some (.slice A0_1 l0_1.length c0_1) ∧ w40.cell? ⟨gb240, 2, none⟩ = some (.int .i64 a0_2) ∧ w40.cell? ⟨gb241, 0, none⟩ = some (.int .i64 a1_0) ∧ w40.cell? ⟨gb241, 1, none⟩ = some (.slice A1_1 l1_1.length c1_1) ∧ w40.cell? ⟨gb241, 2, none⟩ = some (.int .i64 a1_2) := hS_
   obtain ⟨Ao42, co42, eo42⟩ := Kd.R_slice HO257.out
   (first | subst eo42 | (injection eo42 with f1_ f2_ f3_; have f4_ := f1_.symm; have f5_ := f3_.symm; clear f1_ f2_ f3_; subst f4_; subst f5_))
   refine norm_ (a' := ?_) ?_ ?_
   rotate_left
   ·simp only [putAll, Act.put, List.setIfInBounds_toArray, List.set_cons_zero, List.set_cons_succ]
    rfl
   refine one_ (i := 9) (N := none) #[true, true, true, true, true, true, true, true, true, true, false] rfl rfl (one_of HT_.out (by kernel_rfl)) (by decide) (fun K hK => ?_)
   have hs41 : w40.cell? ⟨gb260, 0, none⟩ = some (.int .i64 0) := (blk_cell BK260.out 0).trans rfl
   have hfs41 := blk_frozen BK260.out 0
   have hns41_0 := NB240_260.out
   have hns41_1 := NB241_260.out
   have hms41_0 := NB260_240.out
   have hms41_1 := NB260_241.out
   have hs43 : w40.cell? ⟨gb260, 1, none⟩ = some (.slice none 0 0) := (blk_cell BK260.out 1).trans rfl
   have hfs43 := blk_frozen BK260.out 1
   have hns43_0 := NB240_260.out
   have hns43_1 := NB241_260.out
   have hms43_0 := NB260_240.out
   have hms43_1 := NB260_241.out
   have hs44 : w40.cell? ⟨gb260, 2, none⟩ = some (.int .i64 0) := (blk_cell BK260.out 2).trans rfl
   have hfs44 := blk_frozen BK260.out 2
   have hns44_0 := NB240_260.out
   have hns44_1 := NB241_260.out
   have hms44_0 := NB260_240.out
   have hms44_1 := NB260_241.out
   refine skip_ (w1 := ?_) (by rfl) rfl ?_ ?_
   rotate_left
   ·go_simp
    rfl
   refine hK.out _ _ ⟨((cell_far (p := ⟨gb260, _, none⟩) NB240_260.out _).trans (((cell_far (p := ⟨gb260, _, none⟩) NB240_260.out _).trans (((cell_far (p := ⟨gb260, _, none⟩) NB240_260.out _).trans (hHeld.1)))))), ((cell_far (p := ⟨gb260, _, none⟩) NB240_260.out _).trans (((cell_far (p := ⟨gb260, _, none⟩) NB240_260.out _).trans (((cell_far (p := ⟨gb260, _, none⟩) NB240_260.out _).trans (hHeld.2.1)))))), ((cell_far (p := ⟨gb260, _, none⟩) NB240_260.out _).trans (((cell_far (p := ⟨gb260, _, none⟩) NB240_260.out _).trans (((cell_far (p := ⟨gb260, _, none⟩) NB240_260.out _).trans (hHeld.2.2.1)))))), ((cell_far (p := ⟨gb260, _, none⟩) NB241_260.out _).trans (((cell_far (p := ⟨gb260, _, none⟩) NB241_260.out _).trans (((cell_far (p := ⟨gb260, _, none⟩) NB241_260.out _).trans (hHeld.2.2.2.1)))))), ((cell_far (p := ⟨gb260, _, none⟩) NB241_260.out _).trans (((cell_far (p := ⟨gb260, _, none⟩) NB241_260.out _).trans (((cell_far (p := ⟨gb260, _, none⟩) NB241_260.out _).trans (hHeld.2.2.2.2.1)))))), ((cell_far (p := ⟨gb260, _, none⟩) NB241_260.out _).trans (((cell_far (p := ⟨gb260, _, none⟩) NB241_260.out _).trans (((cell_far (p := ⟨gb260, _, none⟩) NB241_260.out _).trans (hHeld.2.2.2.2.2))))))⟩ (fun hHeld => ?_)
   clear hK K
   refine pure_ (i := 10) (N := some 7) (v := ?_) (a' := ?_) #[true, true, true, true, true, true, true, true, true, true, true] rfl rfl (any_of HT_.out (by kernel_rfl)) (fun _ _ _ h => h) (Or.inl ⟨by rfl, ?_⟩) ?_ ?_
   rotate_left
   ·intro w'
    go_simp
    with_reducible rfl
   rotate_left
   ·simp only [Act.put, List.setIfInBounds_toArray, List.set_cons_zero, List.set_cons_succ, i64_w, i32_w]
    rfl
   refine done_ (done_of HT_.out (by kernel_rfl)) ?_
   have hnb45 := NB240_260.out
   have hnc45 := NB260_240.out
   have hcz46_0 := cq_ BK240.out 0 (.int .i64 a0_0)
   have hcz46_1 := cq_ BK240.out 1 (.slice A0_1 l0_1.length c0_1)
   have hcz46_2 := cq_ BK240.out 2 (.int .i64 a0_2)
   have hfz46_0 := blk_frozen BK240.out 0
   have hfz46_1 := blk_frozen BK240.out 1
   have hfz46_2 := blk_frozen BK240.out 2
   go_upto_region 12 with (first | ((with_reducible refine gate_callee (f := 14) rfl ?_); refine goesL_ (some 36) rfl rfl Try.func14 (by kernel_rfl) rfl #[.agg #[.int .i64 a0_0, .slice A0_1 l0_1.length c0_1, .int .i64 a0_2]] rfl (by (try simp only [List.map_toArray, List.map_cons, List.map_nil]); first | done | rfl | (simp only [List.length_drop, List.length_take]; rfl)) ?_; (with_reducible refine (laws_toDiagram.calls k a0_0 _ _ l0_1 a0_2 t261 t262 t265 _ ?side1 ?side2 A22.out).mono ?_); (case side1 => exact Kd.C_below HR0_1.out (bq_)); (case side2 => exact HC0_1.out); rintro e w47 ⟨v263, rfl, ho0, hb⟩; refine ⟨_, rfl, ?_⟩; have n0_ := Aside0.mk (Kd.R_elder' (rq_ ((Kd.R_mono (Kd.R_far (p := ⟨gb260, 2, none⟩) (Kd.R_far (p := ⟨gb260, 1, none⟩) (Kd.R_far (p := ⟨gb260, 0, none⟩) (Kd.R_types HO247.out BK260.out (by decide)) (fun _ hk => hk.2) (.int .i64 t254)) (fun _ hk => hk.2) (.slice Ao42 t255.length co42)) (fun _ hk => hk.2) (.int .i64 t258)) (fun _ h_ => h_.1)))) (Kd.R_base ho0) hb); have n1_ := Aside0.mk (Kd.R_elder' (rq_ ((Kd.R_mono (Kd.R_far (p := ⟨gb260, 2, none⟩) (Kd.R_far (p := ⟨gb260, 1, none⟩) (Kd.R_far (p := ⟨gb260, 0, none⟩) (Kd.R_types HO252.out BK260.out (by decide)) (fun _ hk => hk.2) (.int .i64 t254)) (fun _ hk => hk.2) (.slice Ao42 t255.length co42)) (fun _ hk => hk.2) (.int .i64 t258)) (fun _ h_ => h_.1)))) (Kd.R_base ho0) hb); have n2_ := Aside0.mk (Kd.R_elder' (rq_ ((Kd.R_mono (Kd.R_far (p := ⟨gb260, 2, none⟩) (Kd.R_far (p := ⟨gb260, 1, none⟩) (Kd.R_far (p := ⟨gb260, 0, none⟩) (Kd.R_types HO257.out BK260.out (by decide)) (fun _ hk => hk.2) (.int .i64 t254)) (fun _ hk => hk.2) (.slice Ao42 t255.length co42)) (fun _ hk => hk.2) (.int .i64 t258)) (fun _ h_ => h_.1)))) (Kd.R_base ho0) hb); have n3_ := Aside0.mk (Kd.R_lower (Kd.R_new' (Kd.R_new' (Kd.R_new' ho0 (Kd.R_lt (rq_ ((Kd.R_mono (Kd.R_far (p := ⟨gb260, 2, none⟩) (Kd.R_far (p := ⟨gb260, 1, none⟩) (Kd.R_far (p := ⟨gb260, 0, none⟩) (Kd.R_types HO247.out BK260.out (by decide)) (fun _ hk => hk.2) (.int .i64 t254)) (fun _ hk => hk.2) (.slice Ao42 t255.length co42)) (fun _ hk => hk.2) (.int .i64 t258)) (fun _ h_ => h_.1)))))) (Kd.R_lt (rq_ ((Kd.R_mono (Kd.R_far (p := ⟨gb260, 2, none⟩) (Kd.R_far (p := ⟨gb260, 1, none⟩) (Kd.R_far (p := ⟨gb260, 0, none⟩) (Kd.R_types HO252.out BK260.out (by decide)) (fun _ hk => hk.2) (.int .i64 t254)) (fun _ hk => hk.2) (.slice Ao42 t255.length co42)) (fun _ hk => hk.2) (.int .i64 t258)) (fun _ h_ => h_.1)))))) (Kd.R_lt (rq_ ((Kd.R_mono (Kd.R_far (p := ⟨gb260, 2, none⟩) (Kd.R_far (p := ⟨gb260, 1, none⟩) (Kd.R_far (p := ⟨gb260, 0, none⟩) (Kd.R_types HO257.out BK260.out (by decide)) (fun _ hk => hk.2) (.int .i64 t254)) (fun _ hk => hk.2) (.slice Ao42 t255.length co42)) (fun _ hk => hk.2) (.int .i64 t258)) (fun _ h_ => h_.1)))))) (below_size (bq_))); have n4_ := Aside0.mk (blk_below (g := gb240) (o := .cells #[.int .i64 a0_0, .slice A0_1 l0_1.length c0_1, .int .i64 a0_2] 24 (0, 0)) (by (with_reducible repeat (first | refine blk_drewN ?_ _ | refine blk_drew ?_ | refine blk_alloc ?_ _)); refine blk_far ?_ NB240_260.out _; (with_reducible repeat (first | refine blk_drewN ?_ _ | refine blk_drew ?_ | refine blk_alloc ?_ _)); refine blk_far ?_ NB240_260.out _; (with_reducible repeat (first | refine blk_drewN ?_ _ | refine blk_drew ?_ | refine blk_alloc ?_ _)); refine blk_far ?_ NB240_260.out _; (with_reducible repeat (first | refine blk_drewN ?_ _ | refine blk_drew ?_ | refine blk_alloc ?_ _)); exact BK240.out) hb); have n5_ := Aside0.mk (blk_below (g := gb241) (o := .cells #[.int .i64 a1_0, .slice A1_1 l1_1.length c1_1, .int .i64 a1_2] 24 (0, 0)) (by (with_reducible repeat (first | refine blk_drewN ?_ _ | refine blk_drew ?_ | refine blk_alloc ?_ _)); refine blk_far ?_ NB241_260.out _; (with_reducible repeat (first | refine blk_drewN ?_ _ | refine blk_drew ?_ | refine blk_alloc ?_ _)); refine blk_far ?_ NB241_260.out _; (with_reducible repeat (first | refine blk_drewN ?_ _ | refine blk_drew ?_ | refine blk_alloc ?_ _)); refine blk_far ?_ NB241_260.out _; (with_reducible repeat (first | refine blk_drewN ?_ _ | refine blk_drew ?_ | refine blk_alloc ?_ _)); exact BK241.out) hb); have n6_ := Aside0.mk (blk_below (g := gb260) (o := .cells #[.int .i64 t254, .slice Ao42 t255.length co42, .int .i64 t258] 30 (0, 0)) (by (with_reducible repeat (first | refine blk_drewN ?_ _ | refine blk_drew ?_ | refine blk_alloc ?_ _)); refine blk_put (cs := #[.int .i64 t254, .slice Ao42 t255.length co42, .int .i64 0]) ?_ 2 _ rfl; (with_reducible repeat (first | refine blk_drewN ?_ _ | refine blk_drew ?_ | refine blk_alloc ?_ _)); refine blk_put (cs := #[.int .i64 t254, .slice none 0 0, .int .i64 0]) ?_ 1 _ rfl; (with_reducible repeat (first | refine blk_drewN ?_ _ | refine blk_drew ?_ | refine blk_alloc ?_ _)); refine blk_put (cs := #[.int .i64 0, .slice none 0 0, .int .i64 0]) ?_ 0 _ rfl; (with_reducible repeat (first | refine blk_drewN ?_ _ | refine blk_drew ?_ | refine blk_alloc ?_ _)); exact BK260.out) hb); have n7_ := Aside0.mk (below_step (bq_) hb); clear HO247; clear HO252; clear HO257; clear BK240; clear BK241; clear BK260; clear HB; have HO247 := n0_; have HO252 := n1_; have HO257 := n2_; have HO264 := n3_; have BK240 := n4_; have BK241 := n5_; have BK260 := n6_; have HB := n7_; clear n0_ n1_ n2_ n3_ n4_ n5_ n6_ n7_; (try clear hb); (try clear hb2); (try clear hk); (try clear hi); (try clear ho0)) | ((with_reducible refine gate_dst (N := 8) rfl ?_); refine boxq_ (N := 8) (cs := #[.int .i64 0, .slice none 0 0, .int .i64 0]) (t := 30) ?_; intro gb266 hg w48 hbox hb; have n0_ := Aside0.mk (Kd.R_below (rq_ HO247.out) hb); have n1_ := Aside0.mk (Kd.R_below (rq_ HO252.out) hb); have n2_ := Aside0.mk (Kd.R_below (rq_ HO257.out) hb); have n3_ := Aside0.mk (Kd.R_below (rq_ HO264.out) hb); have n4_ := Aside0.mk (blk_below (bk_ BK240.out) hb); have n5_ := Aside0.mk (blk_below (bk_ BK241.out) hb); have n6_ := Aside0.mk (blk_below (bk_ BK260.out) hb); have n7_ := Aside0.mk (below_step (bq_) hb); have n8_ := Aside0.mk (hbox); have n9_ := Aside0.mk ((by rw [hg]; exact (below_size (bq_)) : w.heap.size ≤ gb266)); have n10_ := Aside0.mk ((by rw [hg]; exact (below_size (bq_)) : w.heap.size ≤ gb266)); have n11_ := Aside0.mk ((by rw [hg]; exact Nat.ne_of_lt (blk_lt (bk_ BK240.out)) : gb240 ≠ gb266)); have n12_ := Aside0.mk ((by rw [hg]; exact Nat.ne_of_gt (blk_lt (bk_ BK240.out)) : gb266 ≠ gb240)); have n13_ := Aside0.mk ((by rw [hg]; exact Nat.ne_of_lt (blk_lt (bk_ BK241.out)) : gb241 ≠ gb266)); have n14_ := Aside0.mk ((by rw [hg]; exact Nat.ne_of_gt (blk_lt (bk_ BK241.out)) : gb266 ≠ gb241)); have n15_ := Aside0.mk ((by rw [hg]; exact Nat.ne_of_lt (blk_lt (bk_ BK260.out)) : gb260 ≠ gb266)); have n16_ := Aside0.mk ((by rw [hg]; exact Nat.ne_of_gt (blk_lt (bk_ BK260.out)) : gb266 ≠ gb260)); clear HO247; clear HO252; clear HO257; clear HO264; clear BK240; clear BK241; clear BK260; clear HB; have HO247 := n0_; have HO252 := n1_; have HO257 := n2_; have HO264 := n3_; have BK240 := n4_; have BK241 := n5_; have BK260 := n6_; have HB := n7_; have BK266 := n8_; have GW266 := n9_; have GE266 := n10_; have NB240_266 := n11_; have NB266_240 := n12_; have NB241_266 := n13_; have NB266_241 := n14_; have NB260_266 := n15_; have NB266_260 := n16_; clear n0_ n1_ n2_ n3_ n4_ n5_ n6_ n7_ n8_ n9_ n10_ n11_ n12_ n13_ n14_ n15_ n16_; clear hb hbox hg; have hnb49 := NB266_240.out; have hnc49 := NB240_266.out; have hnb50 := NB266_241.out; have hnc50 := NB241_266.out; have hnb51 := NB266_260.out; have hnc51 := NB260_266.out; have hcz52_0 := cq_ BK266.out 0 (.int .i64 0); have hcz52_1 := cq_ BK266.out 1 (.slice none 0 0); have hcz52_2 := cq_ BK266.out 2 (.int .i64 0); have hfz52_0 := blk_frozen BK266.out 0; have hfz52_1 := blk_frozen BK266.out 1; have hfz52_2 := blk_frozen BK266.out 2; obtain ⟨Ao53, co53, eo53⟩ := Kd.R_slice HO264.out; subst eo53; have hnb54 := NB241_260.out; have hnc54 := NB260_241.out; have hcz55_0 := cq_ BK241.out 0 (.int .i64 a1_0); have hcz55_1 := cq_ BK241.out 1 (.slice A1_1 l1_1.length c1_1); have hcz55_2 := cq_ BK241.out 2 (.int .i64 a1_2); have hfz55_0 := blk_frozen BK241.out 0; have hfz55_1 := blk_frozen BK241.out 1; have hfz55_2 := blk_frozen BK241.out 2) | ((with_reducible refine gate_callee (f := 14) rfl ?_); refine goesL_ (some 38) rfl rfl Try.func14 (by kernel_rfl) rfl #[.agg #[.int .i64 a1_0, .slice A1_1 l1_1.length c1_1, .int .i64 a1_2]] rfl (by (try simp only [List.map_toArray, List.map_cons, List.map_nil]); first | done | rfl | (simp only [List.length_drop, List.length_take]; rfl)) ?_; (with_reducible refine (laws_toDiagram.calls k a1_0 _ _ l1_1 a1_2 t267 t268 t271 _ ?side1 ?side2 A23.out).mono ?_); (case side1 => exact Kd.C_below HR1_1.out (bq_)); (case side2 => exact HC1_1.out); rintro e w56 ⟨v269, rfl, ho0, hb⟩; refine ⟨_, rfl, ?_⟩; have n0_ := Aside0.mk (Kd.R_elder' (rq_ ((Kd.R_mono (Kd.R_far (p := ⟨gb266, 2, none⟩) (Kd.R_far (p := ⟨gb266, 1, none⟩) (Kd.R_far (p := ⟨gb266, 0, none⟩) (Kd.R_types HO247.out BK266.out (by decide)) (fun _ hk => hk.2) (.int .i64 t261)) (fun _ hk => hk.2) (.slice Ao53 t262.length co53)) (fun _ hk => hk.2) (.int .i64 t265)) (fun _ h_ => h_.1)))) (Kd.R_base ho0) hb); have n1_ := Aside0.mk (Kd.R_elder' (rq_ ((Kd.R_mono (Kd.R_far (p := ⟨gb266, 2, none⟩) (Kd.R_far (p := ⟨gb266, 1, none⟩) (Kd.R_far (p := ⟨gb266, 0, none⟩) (Kd.R_types HO252.out BK266.out (by decide)) (fun _ hk => hk.2) (.int .i64 t261)) (fun _ hk => hk.2) (.slice Ao53 t262.length co53)) (fun _ hk => hk.2) (.int .i64 t265)) (fun _ h_ => h_.1)))) (Kd.R_base ho0) hb); have n2_ := Aside0.mk (Kd.R_elder' (rq_ ((Kd.R_mono (Kd.R_far (p := ⟨gb266, 2, none⟩) (Kd.R_far (p := ⟨gb266, 1, none⟩) (Kd.R_far (p := ⟨gb266, 0, none⟩) (Kd.R_types HO257.out BK266.out (by decide)) (fun _ hk => hk.2) (.int .i64 t261)) (fun _ hk => hk.2) (.slice Ao53 t262.length co53)) (fun _ hk => hk.2) (.int .i64 t265)) (fun _ h_ => h_.1)))) (Kd.R_base ho0) hb); have n3_ := Aside0.mk (Kd.R_elder' (rq_ ((Kd.R_mono (Kd.R_far (p := ⟨gb266, 2, none⟩) (Kd.R_far (p := ⟨gb266, 1, none⟩) (Kd.R_far (p := ⟨gb266, 0, none⟩) (Kd.R_types HO264.out BK266.out (by decide)) (fun _ hk => hk.2) (.int .i64 t261)) (fun _ hk => hk.2) (.slice Ao53 t262.length co53)) (fun _ hk => hk.2) (.int .i64 t265)) (fun _ h_ => h_.1)))) (Kd.R_base ho0) hb); have n4_ := Aside0.mk (Kd.R_lower (Kd.R_new' (Kd.R_new' (Kd.R_new' (Kd.R_new' ho0 (Kd.R_lt (rq_ ((Kd.R_mono (Kd.R_far (p := ⟨gb266, 2, none⟩) (Kd.R_far (p := ⟨gb266, 1, none⟩) (Kd.R_far (p := ⟨gb266, 0, none⟩) (Kd.R_types HO247.out BK266.out (by decide)) (fun _ hk => hk.2) (.int .i64 t261)) (fun _ hk => hk.2) (.slice Ao53 t262.length co53)) (fun _ hk => hk.2) (.int .i64 t265)) (fun _ h_ => h_.1)))))) (Kd.R_lt (rq_ ((Kd.R_mono (Kd.R_far (p := ⟨gb266, 2, none⟩) (Kd.R_far (p := ⟨gb266, 1, none⟩) (Kd.R_far (p := ⟨gb266, 0, none⟩) (Kd.R_types HO252.out BK266.out (by decide)) (fun _ hk => hk.2) (.int .i64 t261)) (fun _ hk => hk.2) (.slice Ao53 t262.length co53)) (fun _ hk => hk.2) (.int .i64 t265)) (fun _ h_ => h_.1)))))) (Kd.R_lt (rq_ ((Kd.R_mono (Kd.R_far (p := ⟨gb266, 2, none⟩) (Kd.R_far (p := ⟨gb266, 1, none⟩) (Kd.R_far (p := ⟨gb266, 0, none⟩) (Kd.R_types HO257.out BK266.out (by decide)) (fun _ hk => hk.2) (.int .i64 t261)) (fun _ hk => hk.2) (.slice Ao53 t262.length co53)) (fun _ hk => hk.2) (.int .i64 t265)) (fun _ h_ => h_.1)))))) (Kd.R_lt (rq_ ((Kd.R_mono (Kd.R_far (p := ⟨gb266, 2, none⟩) (Kd.R_far (p := ⟨gb266, 1, none⟩) (Kd.R_far (p := ⟨gb266, 0, none⟩) (Kd.R_types HO264.out BK266.out (by decide)) (fun _ hk => hk.2) (.int .i64 t261)) (fun _ hk => hk.2) (.slice Ao53 t262.length co53)) (fun _ hk => hk.2) (.int .i64 t265)) (fun _ h_ => h_.1)))))) (below_size (bq_))); have n5_ := Aside0.mk (blk_below (g := gb240) (o := .cells #[.int .i64 a0_0, .slice A0_1 l0_1.length c0_1, .int .i64 a0_2] 24 (0, 0)) (by (with_reducible repeat (first | refine blk_drewN ?_ _ | refine blk_drew ?_ | refine blk_alloc ?_ _)); refine blk_far ?_ NB240_266.out _; (with_reducible repeat (first | refine blk_drewN ?_ _ | refine blk_drew ?_ | refine blk_alloc ?_ _)); refine blk_far ?_ NB240_266.out _; (with_reducible repeat (first | refine blk_drewN ?_ _ | refine blk_drew ?_ | refine blk_alloc ?_ _)); refine blk_far ?_ NB240_266.out _; (with_reducible repeat (first | refine blk_drewN ?_ _ | refine blk_drew ?_ | refine blk_alloc ?_ _)); exact BK240.out) hb); have n6_ := Aside0.mk (blk_below (g := gb241) (o := .cells #[.int .i64 a1_0, .slice A1_1 l1_1.length c1_1, .int .i64 a1_2] 24 (0, 0)) (by (with_reducible repeat (first | refine blk_drewN ?_ _ | refine blk_drew ?_ | refine blk_alloc ?_ _)); refine blk_far ?_ NB241_266.out _; (with_reducible repeat (first | refine blk_drewN ?_ _ | refine blk_drew ?_ | refine blk_alloc ?_ _)); refine blk_far ?_ NB241_266.out _; (with_reducible repeat (first | refine blk_drewN ?_ _ | refine blk_drew ?_ | refine blk_alloc ?_ _)); refine blk_far ?_ NB241_266.out _; (with_reducible repeat (first | refine blk_drewN ?_ _ | refine blk_drew ?_ | refine blk_alloc ?_ _)); exact BK241.out) hb); have n7_ := Aside0.mk (blk_below (g := gb260) (o := .cells #[.int .i64 t254, .slice Ao42 t255.length co42, .int .i64 t258] 30 (0, 0)) (by (with_reducible repeat (first | refine blk_drewN ?_ _ | refine blk_drew ?_ | refine blk_alloc ?_ _)); refine blk_far ?_ NB260_266.out _; (with_reducible repeat (first | refine blk_drewN ?_ _ | refine blk_drew ?_ | refine blk_alloc ?_ _)); refine blk_far ?_ NB260_266.out _; (with_reducible repeat (first | refine blk_drewN ?_ _ | refine blk_drew ?_ | refine blk_alloc ?_ _)); refine blk_far ?_ NB260_266.out _; (with_reducible repeat (first | refine blk_drewN ?_ _ | refine blk_drew ?_ | refine blk_alloc ?_ _)); exact BK260.out) hb); have n8_ := Aside0.mk (blk_below (g := gb266) (o := .cells #[.int .i64 t261, .slice Ao53 t262.length co53, .int .i64 t265] 30 (0, 0)) (by (with_reducible repeat (first | refine blk_drewN ?_ _ | refine blk_drew ?_ | refine blk_alloc ?_ _)); refine blk_put (cs := #[.int .i64 t261, .slice Ao53 t262.length co53, .int .i64 0]) ?_ 2 _ rfl; (with_reducible repeat (first | refine blk_drewN ?_ _ | refine blk_drew ?_ | refine blk_alloc ?_ _)); refine blk_put (cs := #[.int .i64 t261, .slice none 0 0, .int .i64 0]) ?_ 1 _ rfl; (with_reducible repeat (first | refine blk_drewN ?_ _ | refine blk_drew ?_ | refine blk_alloc ?_ _)); refine blk_put (cs := #[.int .i64 0, .slice none 0 0, .int .i64 0]) ?_ 0 _ rfl; (with_reducible repeat (first | refine blk_drewN ?_ _ | refine blk_drew ?_ | refine blk_alloc ?_ _)); exact BK266.out) hb); have n9_ := Aside0.mk (below_step (bq_) hb); clear HO247; clear HO252; clear HO257; clear HO264; clear BK240; clear BK241; clear BK260; clear BK266; clear HB; have HO247 := n0_; have HO252 := n1_; have HO257 := n2_; have HO264 := n3_; have HO270 := n4_; have BK240 := n5_; have BK241 := n6_; have BK260 := n7_; have BK266 := n8_; have HB := n9_; clear n0_ n1_ n2_ n3_ n4_ n5_ n6_ n7_ n8_ n9_; (try clear hb); (try clear hb2); (try clear hk); (try clear hi); (try clear ho0)) | ((with_reducible refine gate_dst (N := 9) rfl ?_); refine boxq_ (N := 9) (cs := #[.int .i64 0, .slice none 0 0, .int .i64 0]) (t := 30) ?_; intro gb272 hg w57 hbox hb; have n0_ := Aside0.mk (Kd.R_below (rq_ HO247.out) hb); have n1_ := Aside0.mk (Kd.R_below (rq_ HO252.out) hb); have n2_ := Aside0.mk (Kd.R_below (rq_ HO257.out) hb); have n3_ := Aside0.mk (Kd.R_below (rq_ HO264.out) hb); have n4_ := Aside0.mk (Kd.R_below (rq_ HO270.out) hb); have n5_ := Aside0.mk (blk_below (bk_ BK240.out) hb); have n6_ := Aside0.mk (blk_below (bk_ BK241.out) hb); have n7_ := Aside0.mk (blk_below (bk_ BK260.out) hb); have n8_ := Aside0.mk (blk_below (bk_ BK266.out) hb); have n9_ := Aside0.mk (below_step (bq_) hb); have n10_ := Aside0.mk (hbox); have n11_ := Aside0.mk ((by rw [hg]; exact (below_size (bq_)) : w.heap.size ≤ gb272)); have n12_ := Aside0.mk ((by rw [hg]; exact (below_size (bq_)) : w.heap.size ≤ gb272)); have n13_ := Aside0.mk ((by rw [hg]; exact Nat.ne_of_lt (blk_lt (bk_ BK240.out)) : gb240 ≠ gb272)); have n14_ := Aside0.mk ((by rw [hg]; exact Nat.ne_of_gt (blk_lt (bk_ BK240.out)) : gb272 ≠ gb240)); have n15_ := Aside0.mk ((by rw [hg]; exact Nat.ne_of_lt (blk_lt (bk_ BK241.out)) : gb241 ≠ gb272)); have n16_ := Aside0.mk ((by rw [hg]; exact Nat.ne_of_gt (blk_lt (bk_ BK241.out)) : gb272 ≠ gb241)); have n17_ := Aside0.mk ((by rw [hg]; exact Nat.ne_of_lt (blk_lt (bk_ BK260.out)) : gb260 ≠ gb272)); have n18_ := Aside0.mk ((by rw [hg]; exact Nat.ne_of_gt (blk_lt (bk_ BK260.out)) : gb272 ≠ gb260)); have n19_ := Aside0.mk ((by rw [hg]; exact Nat.ne_of_lt (blk_lt (bk_ BK266.out)) : gb266 ≠ gb272)); have n20_ := Aside0.mk ((by rw [hg]; exact Nat.ne_of_gt (blk_lt (bk_ BK266.out)) : gb272 ≠ gb266)); clear HO247; clear HO252; clear HO257; clear HO264; clear HO270; clear BK240; clear BK241; clear BK260; clear BK266; clear HB; have HO247 := n0_; have HO252 := n1_; have HO257 := n2_; have HO264 := n3_; have HO270 := n4_; have BK240 := n5_; have BK241 := n6_; have BK260 := n7_; have BK266 := n8_; have HB := n9_; have BK272 := n10_; have GW272 := n11_; have GE272 := n12_; have NB240_272 := n13_; have NB272_240 := n14_; have NB241_272 := n15_; have NB272_241 := n16_; have NB260_272 := n17_; have NB272_260 := n18_; have NB266_272 := n19_; have NB272_266 := n20_; clear n0_ n1_ n2_ n3_ n4_ n5_ n6_ n7_ n8_ n9_ n10_ n11_ n12_ n13_ n14_ n15_ n16_ n17_ n18_ n19_ n20_; clear hb hbox hg; have hnb58 := NB272_240.out; have hnc58 := NB240_272.out; have hnb59 := NB272_241.out; have hnc59 := NB241_272.out; have hnb60 := NB272_260.out; have hnc60 := NB260_272.out; have hnb61 := NB272_266.out; have hnc61 := NB266_272.out; have hcz62_0 := cq_ BK272.out 0 (.int .i64 0); have hcz62_1 := cq_ BK272.out 1 (.slice none 0 0); have hcz62_2 := cq_ BK272.out 2 (.int .i64 0); have hfz62_0 := blk_frozen BK272.out 0; have hfz62_1 := blk_frozen BK272.out 1; have hfz62_2 := blk_frozen BK272.out 2; obtain ⟨Ao63, co63, eo63⟩ := Kd.R_slice HO270.out; subst eo63; have hcz64_0 := cq_ BK266.out 0 (.int .i64 t261); have hcz64_1 := cq_ BK266.out 1 (.slice Ao53 t262.length co53); have hcz64_2 := cq_ BK266.out 2 (.int .i64 t265); have hfz64_0 := blk_frozen BK266.out 0; have hfz64_1 := blk_frozen BK266.out 1; have hfz64_2 := blk_frozen BK266.out 2) | ((with_reducible refine gate_callee (f := 30) rfl ?_); refine goesL_ (some 42) rfl rfl Try.func30 (by kernel_rfl) rfl #[.agg #[.int .i64 t261, .slice Ao53 t262.length co53, .int .i64 t265], .agg #[.int .i64 t267, .slice Ao63 t268.length co63, .int .i64 t271]] rfl (by (try simp only [List.map_toArray, List.map_cons, List.map_nil]); first | done | rfl | (simp only [List.length_drop, List.length_take]; rfl)) ?_; (with_reducible refine (impl_BothOf.calls k t261 _ _ t262 t265 t267 _ _ t268 t271 t273 t274 t277 t278 _ ?side1 ?side2 ?side3 ?side4 A24.out).mono ?_); (case side1 => refine (Kd.R_reads' (e := 75) (base := w.heap.size) (ok := fun k_ => ((((True ∧ some k_ ≠ (v246 : Value).ownBlock) ∧ some k_ ≠ (v251 : Value).ownBlock) ∧ some k_ ≠ (.slice Ao42 t255.length co42 : Value).ownBlock) ∧ some k_ ≠ (.slice Ao63 t268.length co63 : Value).ownBlock)) (n := t262.length) (c := co53) ?_).2.2; exact (rq_ ((Kd.R_mono (Kd.R_far (p := ⟨gb272, 2, none⟩) (Kd.R_far (p := ⟨gb272, 1, none⟩) (Kd.R_far (p := ⟨gb272, 0, none⟩) (Kd.R_types HO264.out BK272.out (by decide)) (fun _ hk => hk.2) (.int .i64 t267)) (fun _ hk => hk.2) (.slice Ao63 t268.length co63)) (fun _ hk => hk.2) (.int .i64 t271)) (fun _ h_ => h_.1))))); (case side2 => exact (Kd.R_reads' HO264.out).2.1); (case side3 => refine (Kd.R_reads' (e := 75) (base := w.heap.size) (ok := fun k_ => ((((True ∧ some k_ ≠ (v246 : Value).ownBlock) ∧ some k_ ≠ (v251 : Value).ownBlock) ∧ some k_ ≠ (.slice Ao42 t255.length co42 : Value).ownBlock) ∧ some k_ ≠ (.slice Ao53 t262.length co53 : Value).ownBlock)) (n := t268.length) (c := co63) ?_).2.2; exact (rq_ ((Kd.R_mono (Kd.R_far (p := ⟨gb272, 2, none⟩) (Kd.R_far (p := ⟨gb272, 1, none⟩) (Kd.R_far (p := ⟨gb272, 0, none⟩) (Kd.R_types HO270.out BK272.out (by decide)) (fun _ hk => hk.2) (.int .i64 t267)) (fun _ hk => hk.2) (.slice Ao63 t268.length co63)) (fun _ hk => hk.2) (.int .i64 t271)) (fun _ h_ => h_.1))))); (case side4 => exact (Kd.R_reads' HO270.out).2.1); rintro e w65 ⟨v275, rfl, ho0, hb⟩; refine ⟨_, rfl, ?_⟩; have n0_ := Aside0.mk (Kd.R_elder' (rq_ ((Kd.R_mono (Kd.R_far (p := ⟨gb272, 2, none⟩) (Kd.R_far (p := ⟨gb272, 1, none⟩) (Kd.R_far (p := ⟨gb272, 0, none⟩) (Kd.R_types HO247.out BK272.out (by decide)) (fun _ hk => hk.2) (.int .i64 t267)) (fun _ hk => hk.2) (.slice Ao63 t268.length co63)) (fun _ hk => hk.2) (.int .i64 t271)) (fun _ h_ => h_.1)))) (Kd.R_base ho0) hb); have n1_ := Aside0.mk (Kd.R_elder' (rq_ ((Kd.R_mono (Kd.R_far (p := ⟨gb272, 2, none⟩) (Kd.R_far (p := ⟨gb272, 1, none⟩) (Kd.R_far (p := ⟨gb272, 0, none⟩) (Kd.R_types HO252.out BK272.out (by decide)) (fun _ hk => hk.2) (.int .i64 t267)) (fun _ hk => hk.2) (.slice Ao63 t268.length co63)) (fun _ hk => hk.2) (.int .i64 t271)) (fun _ h_ => h_.1)))) (Kd.R_base ho0) hb); have n2_ := Aside0.mk (Kd.R_elder' (rq_ ((Kd.R_mono (Kd.R_far (p := ⟨gb272, 2, none⟩) (Kd.R_far (p := ⟨gb272, 1, none⟩) (Kd.R_far (p := ⟨gb272, 0, none⟩) (Kd.R_types HO257.out BK272.out (by decide)) (fun _ hk => hk.2) (.int .i64 t267)) (fun _ hk => hk.2) (.slice Ao63 t268.length co63)) (fun _ hk => hk.2) (.int .i64 t271)) (fun _ h_ => h_.1)))) (Kd.R_base ho0) hb); have n3_ := Aside0.mk (Kd.R_elder' (rq_ ((Kd.R_mono (Kd.R_far (p := ⟨gb272, 2, none⟩) (Kd.R_far (p := ⟨gb272, 1, none⟩) (Kd.R_far (p := ⟨gb272, 0, none⟩) (Kd.R_types HO264.out BK272.out (by decide)) (fun _ hk => hk.2) (.int .i64 t267)) (fun _ hk => hk.2) (.slice Ao63 t268.length co63)) (fun _ hk => hk.2) (.int .i64 t271)) (fun _ h_ => h_.1)))) (Kd.R_base ho0) hb); have n4_ := Aside0.mk (Kd.R_elder' (rq_ ((Kd.R_mono (Kd.R_far (p := ⟨gb272, 2, none⟩) (Kd.R_far (p := ⟨gb272, 1, none⟩) (Kd.R_far (p := ⟨gb272, 0, none⟩) (Kd.R_types HO270.out BK272.out (by decide)) (fun _ hk => hk.2) (.int .i64 t267)) (fun _ hk => hk.2) (.slice Ao63 t268.length co63)) (fun _ hk => hk.2) (.int .i64 t271)) (fun _ h_ => h_.1)))) (Kd.R_base ho0) hb); have n5_ := Aside0.mk (Kd.R_lower (Kd.R_new' (Kd.R_new' (Kd.R_new' (Kd.R_new' (Kd.R_new' ho0 (Kd.R_lt (rq_ ((Kd.R_mono (Kd.R_far (p := ⟨gb272, 2, none⟩) (Kd.R_far (p := ⟨gb272, 1, none⟩) (Kd.R_far (p := ⟨gb272, 0, none⟩) (Kd.R_types HO247.out BK272.out (by decide)) (fun _ hk => hk.2) (.int .i64 t267)) (fun _ hk => hk.2) (.slice Ao63 t268.length co63)) (fun _ hk => hk.2) (.int .i64 t271)) (fun _ h_ => h_.1)))))) (Kd.R_lt (rq_ ((Kd.R_mono (Kd.R_far (p := ⟨gb272, 2, none⟩) (Kd.R_far (p := ⟨gb272, 1, none⟩) (Kd.R_far (p := ⟨gb272, 0, none⟩) (Kd.R_types HO252.out BK272.out (by decide)) (fun _ hk => hk.2) (.int .i64 t267)) (fun _ hk => hk.2) (.slice Ao63 t268.length co63)) (fun _ hk => hk.2) (.int .i64 t271)) (fun _ h_ => h_.1)))))) (Kd.R_lt (rq_ ((Kd.R_mono (Kd.R_far (p := ⟨gb272, 2, none⟩) (Kd.R_far (p := ⟨gb272, 1, none⟩) (Kd.R_far (p := ⟨gb272, 0, none⟩) (Kd.R_types HO257.out BK272.out (by decide)) (fun _ hk => hk.2) (.int .i64 t267)) (fun _ hk => hk.2) (.slice Ao63 t268.length co63)) (fun _ hk => hk.2) (.int .i64 t271)) (fun _ h_ => h_.1)))))) (Kd.R_lt (rq_ ((Kd.R_mono (Kd.R_far (p := ⟨gb272, 2, none⟩) (Kd.R_far (p := ⟨gb272, 1, none⟩) (Kd.R_far (p := ⟨gb272, 0, none⟩) (Kd.R_types HO264.out BK272.out (by decide)) (fun _ hk => hk.2) (.int .i64 t267)) (fun _ hk => hk.2) (.slice Ao63 t268.length co63)) (fun _ hk => hk.2) (.int .i64 t271)) (fun _ h_ => h_.1)))))) (Kd.R_lt (rq_ ((Kd.R_mono (Kd.R_far (p := ⟨gb272, 2, none⟩) (Kd.R_far (p := ⟨gb272, 1, none⟩) (Kd.R_far (p := ⟨gb272, 0, none⟩) (Kd.R_types HO270.out BK272.out (by decide)) (fun _ hk => hk.2) (.int .i64 t267)) (fun _ hk => hk.2) (.slice Ao63 t268.length co63)) (fun _ hk => hk.2) (.int .i64 t271)) (fun _ h_ => h_.1)))))) (below_size (bq_))); have n6_ := Aside0.mk (blk_below (g := gb240) (o := .cells #[.int .i64 a0_0, .slice A0_1 l0_1.length c0_1, .int .i64 a0_2] 24 (0, 0)) (by (with_reducible repeat (first | refine blk_drewN ?_ _ | refine blk_drew ?_ | refine blk_alloc ?_ _)); refine blk_far ?_ NB240_272.out _; (with_reducible repeat (first | refine blk_drewN ?_ _ | refine blk_drew ?_ | refine blk_alloc ?_ _)); refine blk_far ?_ NB240_272.out _; (with_reducible repeat (first | refine blk_drewN ?_ _ | refine blk_drew ?_ | refine blk_alloc ?_ _)); refine blk_far ?_ NB240_272.out _; (with_reducible repeat (first | refine blk_drewN ?_ _ | refine blk_drew ?_ | refine blk_alloc ?_ _)); exact BK240.out) hb); have n7_ := Aside0.mk (blk_below (g := gb241) (o := .cells #[.int .i64 a1_0, .slice A1_1 l1_1.length c1_1, .int .i64 a1_2] 24 (0, 0)) (by (with_reducible repeat (first | refine blk_drewN ?_ _ | refine blk_drew ?_ | refine blk_alloc ?_ _)); refine blk_far ?_ NB241_272.out _; (with_reducible repeat (first | refine blk_drewN ?_ _ | refine blk_drew ?_ | refine blk_alloc ?_ _)); refine blk_far ?_ NB241_272.out _; (with_reducible repeat (first | refine blk_drewN ?_ _ | refine blk_drew ?_ | refine blk_alloc ?_ _)); refine blk_far ?_ NB241_272.out _; (with_reducible repeat (first | refine blk_drewN ?_ _ | refine blk_drew ?_ | refine blk_alloc ?_ _)); exact BK241.out) hb); have n8_ := Aside0.mk (blk_below (g := gb260) (o := .cells #[.int .i64 t254, .slice Ao42 t255.length co42, .int .i64 t258] 30 (0, 0)) (by (with_reducible repeat (first | refine blk_drewN ?_ _ | refine blk_drew ?_ | refine blk_alloc ?_ _)); refine blk_far ?_ NB260_272.out _; (with_reducible repeat (first | refine blk_drewN ?_ _ | refine blk_drew ?_ | refine blk_alloc ?_ _)); refine blk_far ?_ NB260_272.out _; (with_reducible repeat (first | refine blk_drewN ?_ _ | refine blk_drew ?_ | refine blk_alloc ?_ _)); refine blk_far ?_ NB260_272.out _; (with_reducible repeat (first | refine blk_drewN ?_ _ | refine blk_drew ?_ | refine blk_alloc ?_ _)); exact BK260.out) hb); have n9_ := Aside0.mk (blk_below (g := gb266) (o := .cells #[.int .i64 t261, .slice Ao53 t262.length co53, .int .i64 t265] 30 (0, 0)) (by (with_reducible repeat (first | refine blk_drewN ?_ _ | refine blk_drew ?_ | refine blk_alloc ?_ _)); refine blk_far ?_ NB266_272.out _; (with_reducible repeat (first | refine blk_drewN ?_ _ | refine blk_drew ?_ | refine blk_alloc ?_ _)); refine blk_far ?_ NB266_272.out _; (with_reducible repeat (first | refine blk_drewN ?_ _ | refine blk_drew ?_ | refine blk_alloc ?_ _)); refine blk_far ?_ NB266_272.out _; (with_reducible repeat (first | refine blk_drewN ?_ _ | refine blk_drew ?_ | refine blk_alloc ?_ _)); exact BK266.out) hb); have n10_ := Aside0.mk (blk_below (g := gb272) (o := .cells #[.int .i64 t267, .slice Ao63 t268.length co63, .int .i64 t271] 30 (0, 0)) (by (with_reducible repeat (first | refine blk_drewN ?_ _ | refine blk_drew ?_ | refine blk_alloc ?_ _)); refine blk_put (cs := #[.int .i64 t267, .slice Ao63 t268.length co63, .int .i64 0]) ?_ 2 _ rfl; (with_reducible repeat (first | refine blk_drewN ?_ _ | refine blk_drew ?_ | refine blk_alloc ?_ _)); refine blk_put (cs := #[.int .i64 t267, .slice none 0 0, .int .i64 0]) ?_ 1 _ rfl; (with_reducible repeat (first | refine blk_drewN ?_ _ | refine blk_drew ?_ | refine blk_alloc ?_ _)); refine blk_put (cs := #[.int .i64 0, .slice none 0 0, .int .i64 0]) ?_ 0 _ rfl; (with_reducible repeat (first | refine blk_drewN ?_ _ | refine blk_drew ?_ | refine blk_alloc ?_ _)); exact BK272.out) hb); have n11_ := Aside0.mk (below_step (bq_) hb); clear HO247; clear HO252; clear HO257; clear HO264; clear HO270; clear BK240; clear BK241; clear BK260; clear BK266; clear BK272; clear HB; have HO247 := n0_; have HO252 := n1_; have HO257 := n2_; have HO264 := n3_; have HO270 := n4_; have HO276 := n5_; have BK240 := n6_; have BK241 := n7_; have BK260 := n8_; have BK266 := n9_; have BK272 := n10_; have HB := n11_; clear n0_ n1_ n2_ n3_ n4_ n5_ n6_ n7_ n8_ n9_ n10_ n11_; (try clear hb); (try clear hb2); (try clear hk); (try clear hi); (try clear ho0)) | ((with_reducible refine gate_dst (N := 10) rfl ?_); refine boxq_ (N := 10) (cs := #[.int .i64 0, .slice none 0 0, .int .i64 0]) (t := 30) ?_; intro gb279 hg w66 hbox hb; have n0_ := Aside0.mk (Kd.R_below (rq_ HO247.out) hb); have n1_ := Aside0.mk (Kd.R_below (rq_ HO252.out) hb); have n2_ := Aside0.mk (Kd.R_below (rq_ HO257.out) hb); have n3_ := Aside0.mk (Kd.R_below (rq_ HO264.out) hb); have n4_ := Aside0.mk (Kd.R_below (rq_ HO270.out) hb); have n5_ := Aside0.mk (Kd.R_below (rq_ HO276.out) hb); have n6_ := Aside0.mk (blk_below (bk_ BK240.out) hb); have n7_ := Aside0.mk (blk_below (bk_ BK241.out) hb); have n8_ := Aside0.mk (blk_below (bk_ BK260.out) hb); have n9_ := Aside0.mk (blk_below (bk_ BK266.out) hb); have n10_ := Aside0.mk (blk_below (bk_ BK272.out) hb); have n11_ := Aside0.mk (below_step (bq_) hb); have n12_ := Aside0.mk (hbox); have n13_ := Aside0.mk ((by rw [hg]; exact (below_size (bq_)) : w.heap.size ≤ gb279)); have n14_ := Aside0.mk ((by rw [hg]; exact (below_size (bq_)) : w.heap.size ≤ gb279)); have n15_ := Aside0.mk ((by rw [hg]; exact Nat.ne_of_lt (blk_lt (bk_ BK240.out)) : gb240 ≠ gb279)); have n16_ := Aside0.mk ((by rw [hg]; exact Nat.ne_of_gt (blk_lt (bk_ BK240.out)) : gb279 ≠ gb240)); have n17_ := Aside0.mk ((by rw [hg]; exact Nat.ne_of_lt (blk_lt (bk_ BK241.out)) : gb241 ≠ gb279)); have n18_ := Aside0.mk ((by rw [hg]; exact Nat.ne_of_gt (blk_lt (bk_ BK241.out)) : gb279 ≠ gb241)); have n19_ := Aside0.mk ((by rw [hg]; exact Nat.ne_of_lt (blk_lt (bk_ BK260.out)) : gb260 ≠ gb279)); have n20_ := Aside0.mk ((by rw [hg]; exact Nat.ne_of_gt (blk_lt (bk_ BK260.out)) : gb279 ≠ gb260)); have n21_ := Aside0.mk ((by rw [hg]; exact Nat.ne_of_lt (blk_lt (bk_ BK266.out)) : gb266 ≠ gb279)); have n22_ := Aside0.mk ((by rw [hg]; exact Nat.ne_of_gt (blk_lt (bk_ BK266.out)) : gb279 ≠ gb266)); have n23_ := Aside0.mk ((by rw [hg]; exact Nat.ne_of_lt (blk_lt (bk_ BK272.out)) : gb272 ≠ gb279)); have n24_ := Aside0.mk ((by rw [hg]; exact Nat.ne_of_gt (blk_lt (bk_ BK272.out)) : gb279 ≠ gb272)); clear HO247; clear HO252; clear HO257; clear HO264; clear HO270; clear HO276; clear BK240; clear BK241; clear BK260; clear BK266; clear BK272; clear HB; have HO247 := n0_; have HO252 := n1_; have HO257 := n2_; have HO264 := n3_; have HO270 := n4_; have HO276 := n5_; have BK240 := n6_; have BK241 := n7_; have BK260 := n8_; have BK266 := n9_; have BK272 := n10_; have HB := n11_; have BK279 := n12_; have GW279 := n13_; have GE279 := n14_; have NB240_279 := n15_; have NB279_240 := n16_; have NB241_279 := n17_; have NB279_241 := n18_; have NB260_279 := n19_; have NB279_260 := n20_; have NB266_279 := n21_; have NB279_266 := n22_; have NB272_279 := n23_; have NB279_272 := n24_; clear n0_ n1_ n2_ n3_ n4_ n5_ n6_ n7_ n8_ n9_ n10_ n11_ n12_ n13_ n14_ n15_ n16_ n17_ n18_ n19_ n20_ n21_ n22_ n23_ n24_; clear hb hbox hg; have hnb67 := NB279_240.out; have hnc67 := NB240_279.out; have hnb68 := NB279_241.out; have hnc68 := NB241_279.out; have hnb69 := NB279_260.out; have hnc69 := NB260_279.out; have hnb70 := NB279_266.out; have hnc70 := NB266_279.out; have hnb71 := NB279_272.out; have hnc71 := NB272_279.out; have hcz72_0 := cq_ BK279.out 0 (.int .i64 0); have hcz72_1 := cq_ BK279.out 1 (.slice none 0 0); have hcz72_2 := cq_ BK279.out 2 (.int .i64 0); have hfz72_0 := blk_frozen BK279.out 0; have hfz72_1 := blk_frozen BK279.out 1; have hfz72_2 := blk_frozen BK279.out 2; obtain ⟨Ao73, co73, eo73⟩ := Kd.R_slice HO276.out; subst eo73))
   (try simp only [Act.put, List.setIfInBounds_toArray, List.set_cons_zero, List.set_cons_succ])
   go_cut [53] (fun v53 wc => ∃ (kq : Nat) (x53_24 : Bool), v53 = .bool x53_24 ∧ Aside0 (laws_FnExactBothOf.j0 kq t259 t278 x53_24 a0_0 l0_1 a0_2 a1_0 l1_1 a1_2 t254 t255 t258 t261 t262 t265 t267 t268 t271 t273 t274 t277 = some r) ∧ Aside0 (kq ≤ k) ∧ Aside0 (Kd.R k75 75 wc w.heap.size (fun k_ => some k_ ≠ ((.slice Ao53 t262.length co53) : Value).ownBlock ∧ some k_ ≠ ((.slice Ao63 t268.length co63) : Value).ownBlock ∧ some k_ ≠ ((.slice Ao73 t274.length co73) : Value).ownBlock) (.slice Ao42 t255.length co42) t255) ∧ Aside0 (Kd.R k75 75 wc w.heap.size (fun k_ => some k_ ≠ ((.slice Ao42 t255.length co42) : Value).ownBlock ∧ some k_ ≠ ((.slice Ao63 t268.length co63) : Value).ownBlock ∧ some k_ ≠ ((.slice Ao73 t274.length co73) : Value).ownBlock) (.slice Ao53 t262.length co53) t262) ∧ Aside0 (Kd.R k75 75 wc w.heap.size (fun k_ => some k_ ≠ ((.slice Ao42 t255.length co42) : Value).ownBlock ∧ some k_ ≠ ((.slice Ao53 t262.length co53) : Value).ownBlock ∧ some k_ ≠ ((.slice Ao73 t274.length co73) : Value).ownBlock) (.slice Ao63 t268.length co63) t268) ∧ Aside0 (Kd.R k75 75 wc w.heap.size (fun k_ => some k_ ≠ ((.slice Ao42 t255.length co42) : Value).ownBlock ∧ some k_ ≠ ((.slice Ao53 t262.length co53) : Value).ownBlock ∧ some k_ ≠ ((.slice Ao63 t268.length co63) : Value).ownBlock) (.slice Ao73 t274.length co73) t274) ∧ Aside0 (wc.heap[gb240]? = some (.cells #[.int .i64 a0_0, (.slice A0_1 l0_1.length c0_1), .int .i64 a0_2] 24 (0, 0))) ∧ Aside0 (wc.heap[gb241]? = some (.cells #[.int .i64 a1_0, (.slice A1_1 l1_1.length c1_1), .int .i64 a1_2] 24 (0, 0))) ∧ Aside0 (wc.heap[gb260]? = some (.cells #[.int .i64 t254, (.slice Ao42 t255.length co42), .int .i64 t258] 30 (0, 0))) ∧ Aside0 (wc.heap[gb266]? = some (.cells #[.int .i64 t261, (.slice Ao53 t262.length co53), .int .i64 t265] 30 (0, 0))) ∧ Aside0 (wc.heap[gb272]? = some (.cells #[.int .i64 t267, (.slice Ao63 t268.length co63), .int .i64 t271] 30 (0, 0))) ∧ Aside0 (wc.heap[gb279]? = some (.cells #[.int .i64 t273, (.slice Ao73 t274.length co73), .int .i64 t277] 30 (0, 0))) ∧ Aside0 (Below w.heap.size w wc))
   case first =>
    have H := HC25.out
    clear HC25
    replace H := Option.bind_eq_some_iff.mp H
    obtain ⟨t280, A740, H⟩ := H
    replace H : (if t280 = true then (laws_FnExactBothOf.j0 k t259 t278 (t278 != t259) a0_0 l0_1 a0_2 a1_0 l1_1 a1_2 t254 t255 t258 t261 t262 t265 t267 t268 t271 t273 t274 t277) else (laws_FnExactBothOf.j0 k t259 t278 true a0_0 l0_1 a0_2 a1_0 l1_1 a1_2 t254 t255 t258 t261 t262 t265 t267 t268 t271 t273 t274 t277)) = some r := H
    have A74 := Aside0.mk A740
    clear A740
    by_cases c75 : t280 = true
    ·subst c75
     have H1 : (laws_FnExactBothOf.j0 k t259 t278 (t278 != t259) a0_0 l0_1 a0_2 a1_0 l1_1 a1_2 t254 t255 t258 t261 t262 t265 t267 t268 t271 t273 t274 t277) = some r := by rw [if_pos rfl] at H; exact H
     clear H
     have H := H1
     clear H1
     have H' := Aside0.mk H
     clear H
     have hnb76 := NB279_240.out
     have hnc76 := NB240_279.out
     have hnb77 := NB279_241.out
     have hnc77 := NB241_279.out
     have hnb78 := NB279_260.out
     have hnc78 := NB260_279.out
     have hnb79 := NB279_266.out
     have hnc79 := NB266_279.out
     have hnb80 := NB279_272.out
     have hnc80 := NB272_279.out
     have hcz81_0 := cq_ BK279.out 0 (.int .i64 0)
     have hcz81_1 := cq_ BK279.out 1 (.slice none 0 0)
     have hcz81_2 := cq_ BK279.out 2 (.int .i64 0)
     have hfz81_0 := blk_frozen BK279.out 0
     have hfz81_1 := blk_frozen BK279.out 1
     have hfz81_2 := blk_frozen BK279.out 2
     have hnb82 := NB260_240.out
     have hnc82 := NB240_260.out
     have hnb83 := NB260_241.out
     have hnc83 := NB241_260.out
     have hnb84 := NB260_266.out
     have hnc84 := NB266_260.out
     have hnb85 := NB260_272.out
     have hnc85 := NB272_260.out
     have hcz86_0 := cq_ BK260.out 0 (.int .i64 t254)
     have hcz86_1 := cq_ BK260.out 1 (.slice Ao42 t255.length co42)
     have hcz86_2 := cq_ BK260.out 2 (.int .i64 t258)
     have hfz86_0 := blk_frozen BK260.out 0
     have hfz86_1 := blk_frozen BK260.out 1
     have hfz86_2 := blk_frozen BK260.out 2
     go_wp2_with (first | ((with_reducible refine gate_callee (f := 16) rfl ?_); refine goesL_ (some 47) rfl rfl Try.func16 (by kernel_rfl) rfl #[.agg #[.int .i64 t273, .slice Ao73 t274.length co73, .int .i64 t277], .agg #[.int .i64 t254, .slice Ao42 t255.length co42, .int .i64 t258]] rfl (by (try simp only [List.map_toArray, List.map_cons, List.map_nil]); first | done | rfl | (simp only [List.length_drop, List.length_take]; rfl)) ?_; (with_reducible refine (laws_eqDiagram.calls k t273 _ _ t274 t277 t254 _ _ t255 t258 true _ ?side1 ?side2 ?side3 ?side4 A74.out).mono ?_); (case side1 => refine (Kd.R_reads' (e := 75) (base := w.heap.size) (ok := fun k_ => (((((True ∧ some k_ ≠ (v246 : Value).ownBlock) ∧ some k_ ≠ (v251 : Value).ownBlock) ∧ some k_ ≠ (.slice Ao42 t255.length co42 : Value).ownBlock) ∧ some k_ ≠ (.slice Ao53 t262.length co53 : Value).ownBlock) ∧ some k_ ≠ (.slice Ao63 t268.length co63 : Value).ownBlock)) (n := t274.length) (c := co73) ?_).2.2; exact (rq_ ((Kd.R_mono (Kd.R_far (p := ⟨gb279, 2, none⟩) (Kd.R_far (p := ⟨gb279, 1, none⟩) (Kd.R_far (p := ⟨gb279, 0, none⟩) (Kd.R_types HO276.out BK279.out (by decide)) (fun _ hk => hk.2) (.int .i64 t273)) (fun _ hk => hk.2) (.slice Ao73 t274.length co73)) (fun _ hk => hk.2) (.int .i64 t277)) (fun _ h_ => h_.1))))); (case side2 => exact (Kd.R_reads' HO276.out).2.1); (case side3 => refine (Kd.R_reads' (e := 75) (base := w.heap.size) (ok := fun k_ => ((((some k_ ≠ (v246 : Value).ownBlock ∧ some k_ ≠ (v251 : Value).ownBlock) ∧ some k_ ≠ (.slice Ao53 t262.length co53 : Value).ownBlock) ∧ some k_ ≠ (.slice Ao63 t268.length co63 : Value).ownBlock) ∧ some k_ ≠ (.slice Ao73 t274.length co73 : Value).ownBlock)) (n := t255.length) (c := co42) ?_).2.2; exact (rq_ ((Kd.R_mono (Kd.R_far (p := ⟨gb279, 2, none⟩) (Kd.R_far (p := ⟨gb279, 1, none⟩) (Kd.R_far (p := ⟨gb279, 0, none⟩) (Kd.R_types HO257.out BK279.out (by decide)) (fun _ hk => hk.2) (.int .i64 t273)) (fun _ hk => hk.2) (.slice Ao73 t274.length co73)) (fun _ hk => hk.2) (.int .i64 t277)) (fun _ h_ => h_.1))))); (case side4 => exact (Kd.R_reads' HO257.out).2.1); rintro e w87 ⟨rfl, hb⟩; refine ⟨_, rfl, ?_⟩; have n0_ := Aside0.mk (Kd.R_below (rq_ ((Kd.R_mono (Kd.R_far (p := ⟨gb279, 2, none⟩) (Kd.R_far (p := ⟨gb279, 1, none⟩) (Kd.R_far (p := ⟨gb279, 0, none⟩) (Kd.R_types HO247.out BK279.out (by decide)) (fun _ hk => hk.2) (.int .i64 t273)) (fun _ hk => hk.2) (.slice Ao73 t274.length co73)) (fun _ hk => hk.2) (.int .i64 t277)) (fun _ h_ => h_.1)))) hb); have n1_ := Aside0.mk (Kd.R_below (rq_ ((Kd.R_mono (Kd.R_far (p := ⟨gb279, 2, none⟩) (Kd.R_far (p := ⟨gb279, 1, none⟩) (Kd.R_far (p := ⟨gb279, 0, none⟩) (Kd.R_types HO252.out BK279.out (by decide)) (fun _ hk => hk.2) (.int .i64 t273)) (fun _ hk => hk.2) (.slice Ao73 t274.length co73)) (fun _ hk => hk.2) (.int .i64 t277)) (fun _ h_ => h_.1)))) hb); have n2_ := Aside0.mk (Kd.R_below (rq_ ((Kd.R_mono (Kd.R_far (p := ⟨gb279, 2, none⟩) (Kd.R_far (p := ⟨gb279, 1, none⟩) (Kd.R_far (p := ⟨gb279, 0, none⟩) (Kd.R_types HO257.out BK279.out (by decide)) (fun _ hk => hk.2) (.int .i64 t273)) (fun _ hk => hk.2) (.slice Ao73 t274.length co73)) (fun _ hk => hk.2) (.int .i64 t277)) (fun _ h_ => h_.1)))) hb); have n3_ := Aside0.mk (Kd.R_below (rq_ ((Kd.R_mono (Kd.R_far (p := ⟨gb279, 2, none⟩) (Kd.R_far (p := ⟨gb279, 1, none⟩) (Kd.R_far (p := ⟨gb279, 0, none⟩) (Kd.R_types HO264.out BK279.out (by decide)) (fun _ hk => hk.2) (.int .i64 t273)) (fun _ hk => hk.2) (.slice Ao73 t274.length co73)) (fun _ hk => hk.2) (.int .i64 t277)) (fun _ h_ => h_.1)))) hb); have n4_ := Aside0.mk (Kd.R_below (rq_ ((Kd.R_mono (Kd.R_far (p := ⟨gb279, 2, none⟩) (Kd.R_far (p := ⟨gb279, 1, none⟩) (Kd.R_far (p := ⟨gb279, 0, none⟩) (Kd.R_types HO270.out BK279.out (by decide)) (fun _ hk => hk.2) (.int .i64 t273)) (fun _ hk => hk.2) (.slice Ao73 t274.length co73)) (fun _ hk => hk.2) (.int .i64 t277)) (fun _ h_ => h_.1)))) hb); have n5_ := Aside0.mk (Kd.R_below (rq_ ((Kd.R_mono (Kd.R_far (p := ⟨gb279, 2, none⟩) (Kd.R_far (p := ⟨gb279, 1, none⟩) (Kd.R_far (p := ⟨gb279, 0, none⟩) (Kd.R_types HO276.out BK279.out (by decide)) (fun _ hk => hk.2) (.int .i64 t273)) (fun _ hk => hk.2) (.slice Ao73 t274.length co73)) (fun _ hk => hk.2) (.int .i64 t277)) (fun _ h_ => h_.1)))) hb); have n6_ := Aside0.mk (blk_below (g := gb240) (o := .cells #[.int .i64 a0_0, .slice A0_1 l0_1.length c0_1, .int .i64 a0_2] 24 (0, 0)) (by (with_reducible repeat (first | refine blk_drewN ?_ _ | refine blk_drew ?_ | refine blk_alloc ?_ _)); refine blk_far ?_ NB240_279.out _; (with_reducible repeat (first | refine blk_drewN ?_ _ | refine blk_drew ?_ | refine blk_alloc ?_ _)); refine blk_far ?_ NB240_279.out _; (with_reducible repeat (first | refine blk_drewN ?_ _ | refine blk_drew ?_ | refine blk_alloc ?_ _)); refine blk_far ?_ NB240_279.out _; (with_reducible repeat (first | refine blk_drewN ?_ _ | refine blk_drew ?_ | refine blk_alloc ?_ _)); exact BK240.out) hb); have n7_ := Aside0.mk (blk_below (g := gb241) (o := .cells #[.int .i64 a1_0, .slice A1_1 l1_1.length c1_1, .int .i64 a1_2] 24 (0, 0)) (by (with_reducible repeat (first | refine blk_drewN ?_ _ | refine blk_drew ?_ | refine blk_alloc ?_ _)); refine blk_far ?_ NB241_279.out _; (with_reducible repeat (first | refine blk_drewN ?_ _ | refine blk_drew ?_ | refine blk_alloc ?_ _)); refine blk_far ?_ NB241_279.out _; (with_reducible repeat (first | refine blk_drewN ?_ _ | refine blk_drew ?_ | refine blk_alloc ?_ _)); refine blk_far ?_ NB241_279.out _; (with_reducible repeat (first | refine blk_drewN ?_ _ | refine blk_drew ?_ | refine blk_alloc ?_ _)); exact BK241.out) hb); have n8_ := Aside0.mk (blk_below (g := gb260) (o := .cells #[.int .i64 t254, .slice Ao42 t255.length co42, .int .i64 t258] 30 (0, 0)) (by (with_reducible repeat (first | refine blk_drewN ?_ _ | refine blk_drew ?_ | refine blk_alloc ?_ _)); refine blk_far ?_ NB260_279.out _; (with_reducible repeat (first | refine blk_drewN ?_ _ | refine blk_drew ?_ | refine blk_alloc ?_ _)); refine blk_far ?_ NB260_279.out _; (with_reducible repeat (first | refine blk_drewN ?_ _ | refine blk_drew ?_ | refine blk_alloc ?_ _)); refine blk_far ?_ NB260_279.out _; (with_reducible repeat (first | refine blk_drewN ?_ _ | refine blk_drew ?_ | refine blk_alloc ?_ _)); exact BK260.out) hb); have n9_ := Aside0.mk (blk_below (g := gb266) (o := .cells #[.int .i64 t261, .slice Ao53 t262.length co53, .int .i64 t265] 30 (0, 0)) (by (with_reducible repeat (first | refine blk_drewN ?_ _ | refine blk_drew ?_ | refine blk_alloc ?_ _)); refine blk_far ?_ NB266_279.out _; (with_reducible repeat (first | refine blk_drewN ?_ _ | refine blk_drew ?_ | refine blk_alloc ?_ _)); refine blk_far ?_ NB266_279.out _; (with_reducible repeat (first | refine blk_drewN ?_ _ | refine blk_drew ?_ | refine blk_alloc ?_ _)); refine blk_far ?_ NB266_279.out _; (with_reducible repeat (first | refine blk_drewN ?_ _ | refine blk_drew ?_ | refine blk_alloc ?_ _)); exact BK266.out) hb); have n10_ := Aside0.mk (blk_below (g := gb272) (o := .cells #[.int .i64 t267, .slice Ao63 t268.length co63, .int .i64 t271] 30 (0, 0)) (by (with_reducible repeat (first | refine blk_drewN ?_ _ | refine blk_drew ?_ | refine blk_alloc ?_ _)); refine blk_far ?_ NB272_279.out _; (with_reducible repeat (first | refine blk_drewN ?_ _ | refine blk_drew ?_ | refine blk_alloc ?_ _)); refine blk_far ?_ NB272_279.out _; (with_reducible repeat (first | refine blk_drewN ?_ _ | refine blk_drew ?_ | refine blk_alloc ?_ _)); refine blk_far ?_ NB272_279.out _; (with_reducible repeat (first | refine blk_drewN ?_ _ | refine blk_drew ?_ | refine blk_alloc ?_ _)); exact BK272.out) hb); have n11_ := Aside0.mk (blk_below (g := gb279) (o := .cells #[.int .i64 t273, .slice Ao73 t274.length co73, .int .i64 t277] 30 (0, 0)) (by (with_reducible repeat (first | refine blk_drewN ?_ _ | refine blk_drew ?_ | refine blk_alloc ?_ _)); refine blk_put (cs := #[.int .i64 t273, .slice Ao73 t274.length co73, .int .i64 0]) ?_ 2 _ rfl; (with_reducible repeat (first | refine blk_drewN ?_ _ | refine blk_drew ?_ | refine blk_alloc ?_ _)); refine blk_put (cs := #[.int .i64 t273, .slice none 0 0, .int .i64 0]) ?_ 1 _ rfl; (with_reducible repeat (first | refine blk_drewN ?_ _ | refine blk_drew ?_ | refine blk_alloc ?_ _)); refine blk_put (cs := #[.int .i64 0, .slice none 0 0, .int .i64 0]) ?_ 0 _ rfl; (with_reducible repeat (first | refine blk_drewN ?_ _ | refine blk_drew ?_ | refine blk_alloc ?_ _)); exact BK279.out) hb); have n12_ := Aside0.mk (below_step (bq_) hb); clear HO247; clear HO252; clear HO257; clear HO264; clear HO270; clear HO276; clear BK240; clear BK241; clear BK260; clear BK266; clear BK272; clear BK279; clear HB; have HO247 := n0_; have HO252 := n1_; have HO257 := n2_; have HO264 := n3_; have HO270 := n4_; have HO276 := n5_; have BK240 := n6_; have BK241 := n7_; have BK260 := n8_; have BK266 := n9_; have BK272 := n10_; have BK279 := n11_; have HB := n12_; clear n0_ n1_ n2_ n3_ n4_ n5_ n6_ n7_ n8_ n9_ n10_ n11_ n12_; (try clear hb); (try clear hb2); (try clear hk); (try clear hi)))
     go_meet
     case rel => exact ⟨_, ((t278 != t259)), (by first | rfl | (simp; done) | (simp [*]; done)), H', ⟨by first | omega | exact Nat.le_refl _⟩, ⟨rq_ (Kd.R_mono HO257.out (fun _ hk => ⟨hk.1.1.2, ⟨hk.1.2, hk.2⟩⟩))⟩, ⟨rq_ (Kd.R_mono HO264.out (fun _ hk => ⟨hk.1.1.2, ⟨hk.1.2, hk.2⟩⟩))⟩, ⟨rq_ (Kd.R_mono HO270.out (fun _ hk => ⟨hk.1.1.2, ⟨hk.1.2, hk.2⟩⟩))⟩, ⟨rq_ (Kd.R_mono HO276.out (fun _ hk => ⟨hk.1.1.2, ⟨hk.1.2, hk.2⟩⟩))⟩, ⟨bk_ BK240.out⟩, ⟨bk_ BK241.out⟩, ⟨bk_ BK260.out⟩, ⟨bk_ BK266.out⟩, ⟨bk_ BK272.out⟩, ⟨bk_ BK279.out⟩, ⟨bq_⟩⟩
    ·replace c75 := Bool.eq_false_iff.mpr c75
     subst c75
     have H1 : (laws_FnExactBothOf.j0 k t259 t278 true a0_0 l0_1 a0_2 a1_0 l1_1 a1_2 t254 t255 t258 t261 t262 t265 t267 t268 t271 t273 t274 t277) = some r := by rw [if_neg (show ¬ (false = true) by decide)] at H; exact H
     clear H
     have H := H1
     clear H1
     exact (laws_FnExactBothOf.j0_no_2 (by rw [hr_.out] at H; exact H)).elim
   case rest =>
    clear HC25
    try clear c1
    try clear c2
    try clear p2
    try clear c3
    try clear c4
    try clear c5
    try clear c6
    try clear c7
    try clear c8
    try clear c14
    try clear c16
    try clear c29
    try clear c30
    try clear c45
    try clear c49
    try clear c50
    try clear c51
    try clear c54
    try clear c58
    try clear c59
    try clear c60
    try clear c61
    try clear c67
    try clear c68
    try clear c69
    try clear c70
    try clear c71
    try clear c75
    try clear c76
    try clear c77
    try clear c78
    try clear c79
    try clear c80
    try clear c82
    try clear c83
    try clear c84
    try clear c85
    try clear hcz46_0
    try clear hcz46_1
    try clear hcz46_2
    try clear hcz52_0
    try clear hcz52_1
    try clear hcz52_2
    try clear hcz55_0
    try clear hcz55_1
    try clear hcz55_2
    try clear hcz62_0
    try clear hcz62_1
    try clear hcz62_2
    try clear hcz64_0
    try clear hcz64_1
    try clear hcz64_2
    try clear hcz72_0
    try clear hcz72_1
    try clear hcz72_2
    try clear hcz81_0
    try clear hcz81_1
    try clear hcz81_2
    try clear hcz86_0
    try clear hcz86_1
    try clear hcz86_2
    try clear hfz46_0
    try clear hfz46_1
    try clear hfz46_2
    try clear hfz52_0
    try clear hfz52_1
    try clear hfz52_2
    try clear hfz55_0
    try clear hfz55_1
    try clear hfz55_2
    try clear hfz62_0
    try clear hfz62_1
    try clear hfz62_2
    try clear hfz64_0
    try clear hfz64_1
    try clear hfz64_2
    try clear hfz72_0
    try clear hfz72_1
    try clear hfz72_2
    try clear hfz81_0
    try clear hfz81_1
    try clear hfz81_2
    try clear hfz86_0
    try clear hfz86_1
    try clear hfz86_2
    obtain ⟨kq, x53_24, rfl, HA, HJ24, HO_261001, HO_267001, HO_273001, HO_280001, BK240, BK241, BK260, BK266, BK272, BK279, HB⟩ := hcut
    cases kq with
    | zero => exact absurd HA.out (by simp [laws_FnExactBothOf.j0])
    | succ kj24 =>
     have H := HA.out
     clear HA
     simp only [laws_FnExactBothOf.j0] at H
     by_cases c88 : x53_24 = true
     ·subst c88
      have H1 : (some false) = some r := by rw [if_pos rfl] at H; exact H
      clear H
      have H := H1
      clear H1
      exact absurd (Option.some.inj H).symm (by rw [hr_.out]; simp)
     ·replace c88 := Bool.eq_false_iff.mpr c88
      subst c88
      have H1 : ((laws_toDiagram.f kj24 a0_0 l0_1 a0_2).bind fun bt281 => ((laws_eqDiagram.f kj24 t261 t262 t265 bt281.1 bt281.2.1 bt281.2.2).bind fun t286 => (if t286 = true then ((laws_toDiagram.f kj24 a1_0 l1_1 a1_2).bind fun bt287 => ((laws_eqDiagram.f kj24 t267 t268 t271 bt287.1 bt287.2.1 bt287.2.2).bind fun t292 => (if t292 = true then ((laws_markDiagram.f kj24 t261 t262 t265 1).bind fun bt293 => ((laws_markDiagram.f kj24 t267 t268 t271 bt293.1).bind fun bt295 => (if bt295.1 < 0 then (laws_FnExactBothOf.j1 kj24 t259 true a0_0 l0_1 a0_2 a1_0 l1_1 a1_2 t254 t255 t258 t273 t274 t277) else ((laws_eqDiagram.f kj24 t273 t274 t277 t254 t255 t258).bind fun t297 => (if t297 = true then (laws_FnExactBothOf.j1 kj24 t259 (t278 != t259) a0_0 l0_1 a0_2 a1_0 l1_1 a1_2 t254 t255 t258 t273 t274 t277) else (laws_FnExactBothOf.j1 kj24 t259 true a0_0 l0_1 a0_2 a1_0 l1_1 a1_2 t254 t255 t258 t273 t274 t277)))))) else (some false)))) else (some false)))) = some r := by rw [if_neg (show ¬ (false = true) by decide)] at H; exact H
      clear H
      have H := H1
      clear H1
      replace H := Option.bind_eq_some_iff.mp H
      obtain ⟨⟨t281, t282, t285⟩, A890, H⟩ := H
      replace H : ((laws_eqDiagram.f kj24 t261 t262 t265 t281 t282 t285).bind fun t286 => (if t286 = true then ((laws_toDiagram.f kj24 a1_0 l1_1 a1_2).bind fun bt287 => ((laws_eqDiagram.f kj24 t267 t268 t271 bt287.1 bt287.2.1 bt287.2.2).bind fun t292 => (if t292 = true then ((laws_markDiagram.f kj24 t261 t262 t265 1).bind fun bt293 => ((laws_markDiagram.f kj24 t267 t268 t271 bt293.1).bind fun bt295 => (if bt295.1 < 0 then (laws_FnExactBothOf.j1 kj24 t259 true a0_0 l0_1 a0_2 a1_0 l1_1 a1_2 t254 t255 t258 t273 t274 t277) else ((laws_eqDiagram.f kj24 t273 t274 t277 t254 t255 t258).bind fun t297 => (if t297 = true then (laws_FnExactBothOf.j1 kj24 t259 (t278 != t259) a0_0 l0_1 a0_2 a1_0 l1_1 a1_2 t254 t255 t258 t273 t274 t277) else (laws_FnExactBothOf.j1 kj24 t259 true a0_0 l0_1 a0_2 a1_0 l1_1 a1_2 t254 t255 t258 t273 t274 t277)))))) else (some false)))) else (some false))) = some r := H
      have A89 := Aside0.mk A890
      clear A890
      replace H := Option.bind_eq_some_iff.mp H
      obtain ⟨t286, A900, H⟩ := H
      replace H : (if t286 = true then ((laws_toDiagram.f kj24 a1_0 l1_1 a1_2).bind fun bt287 => ((laws_eqDiagram.f kj24 t267 t268 t271 bt287.1 bt287.2.1 bt287.2.2).bind fun t292 => (if t292 = true then ((laws_markDiagram.f kj24 t261 t262 t265 1).bind fun bt293 => ((laws_markDiagram.f kj24 t267 t268 t271 bt293.1).bind fun bt295 => (if bt295.1 < 0 then (laws_FnExactBothOf.j1 kj24 t259 true a0_0 l0_1 a0_2 a1_0 l1_1 a1_2 t254 t255 t258 t273 t274 t277) else ((laws_eqDiagram.f kj24 t273 t274 t277 t254 t255 t258).bind fun t297 => (if t297 = true then (laws_FnExactBothOf.j1 kj24 t259 (t278 != t259) a0_0 l0_1 a0_2 a1_0 l1_1 a1_2 t254 t255 t258 t273 t274 t277) else (laws_FnExactBothOf.j1 kj24 t259 true a0_0 l0_1 a0_2 a1_0 l1_1 a1_2 t254 t255 t258 t273 t274 t277)))))) else (some false)))) else (some false)) = some r := H
      have A90 := Aside0.mk A900
      clear A900
      by_cases c91 : t286 = true
      ·subst c91
       have H1 : ((laws_toDiagram.f kj24 a1_0 l1_1 a1_2).bind fun bt287 => ((laws_eqDiagram.f kj24 t267 t268 t271 bt287.1 bt287.2.1 bt287.2.2).bind fun t292 => (if t292 = true then ((laws_markDiagram.f kj24 t261 t262 t265 1).bind fun bt293 => ((laws_markDiagram.f kj24 t267 t268 t271 bt293.1).bind fun bt295 => (if bt295.1 < 0 then (laws_FnExactBothOf.j1 kj24 t259 true a0_0 l0_1 a0_2 a1_0 l1_1 a1_2 t254 t255 t258 t273 t274 t277) else ((laws_eqDiagram.f kj24 t273 t274 t277 t254 t255 t258).bind fun t297 => (if t297 = true then (laws_FnExactBothOf.j1 kj24 t259 (t278 != t259) a0_0 l0_1 a0_2 a1_0 l1_1 a1_2 t254 t255 t258 t273 t274 t277) else (laws_FnExactBothOf.j1 kj24 t259 true a0_0 l0_1 a0_2 a1_0 l1_1 a1_2 t254 t255 t258 t273 t274 t277)))))) else (some false)))) = some r := by rw [if_pos rfl] at H; exact H
       clear H
       have H := H1
       clear H1
       replace H := Option.bind_eq_some_iff.mp H
       obtain ⟨⟨t287, t288, t291⟩, A920, H⟩ := H
       replace H : ((laws_eqDiagram.f kj24 t267 t268 t271 t287 t288 t291).bind fun t292 => (if t292 = true then ((laws_markDiagram.f kj24 t261 t262 t265 1).bind fun bt293 => ((laws_markDiagram.f kj24 t267 t268 t271 bt293.1).bind fun bt295 => (if bt295.1 < 0 then (laws_FnExactBothOf.j1 kj24 t259 true a0_0 l0_1 a0_2 a1_0 l1_1 a1_2 t254 t255 t258 t273 t274 t277) else ((laws_eqDiagram.f kj24 t273 t274 t277 t254 t255 t258).bind fun t297 => (if t297 = true then (laws_FnExactBothOf.j1 kj24 t259 (t278 != t259) a0_0 l0_1 a0_2 a1_0 l1_1 a1_2 t254 t255 t258 t273 t274 t277) else (laws_FnExactBothOf.j1 kj24 t259 true a0_0 l0_1 a0_2 a1_0 l1_1 a1_2 t254 t255 t258 t273 t274 t277)))))) else (some false))) = some r := H
       have A92 := Aside0.mk A920
       clear A920
       replace H := Option.bind_eq_some_iff.mp H
       obtain ⟨t292, A930, H⟩ := H
       replace H : (if t292 = true then ((laws_markDiagram.f kj24 t261 t262 t265 1).bind fun bt293 => ((laws_markDiagram.f kj24 t267 t268 t271 bt293.1).bind fun bt295 => (if bt295.1 < 0 then (laws_FnExactBothOf.j1 kj24 t259 true a0_0 l0_1 a0_2 a1_0 l1_1 a1_2 t254 t255 t258 t273 t274 t277) else ((laws_eqDiagram.f kj24 t273 t274 t277 t254 t255 t258).bind fun t297 => (if t297 = true then (laws_FnExactBothOf.j1 kj24 t259 (t278 != t259) a0_0 l0_1 a0_2 a1_0 l1_1 a1_2 t254 t255 t258 t273 t274 t277) else (laws_FnExactBothOf.j1 kj24 t259 true a0_0 l0_1 a0_2 a1_0 l1_1 a1_2 t254 t255 t258 t273 t274 t277)))))) else (some false)) = some r := H
       have A93 := Aside0.mk A930
       clear A930
       by_cases c94 : t292 = true
       ·subst c94
        have H1 : ((laws_markDiagram.f kj24 t261 t262 t265 1).bind fun bt293 => ((laws_markDiagram.f kj24 t267 t268 t271 bt293.1).bind fun bt295 => (if bt295.1 < 0 then (laws_FnExactBothOf.j1 kj24 t259 true a0_0 l0_1 a0_2 a1_0 l1_1 a1_2 t254 t255 t258 t273 t274 t277) else ((laws_eqDiagram.f kj24 t273 t274 t277 t254 t255 t258).bind fun t297 => (if t297 = true then (laws_FnExactBothOf.j1 kj24 t259 (t278 != t259) a0_0 l0_1 a0_2 a1_0 l1_1 a1_2 t254 t255 t258 t273 t274 t277) else (laws_FnExactBothOf.j1 kj24 t259 true a0_0 l0_1 a0_2 a1_0 l1_1 a1_2 t254 t255 t258 t273 t274 t277)))))) = some r := by rw [if_pos rfl] at H; exact H
        clear H
        have H := H1
        clear H1
        replace H := Option.bind_eq_some_iff.mp H
        obtain ⟨⟨t293, t294⟩, A950, H⟩ := H
        replace H : ((laws_markDiagram.f kj24 t267 t268 t271 t293).bind fun bt295 => (if bt295.1 < 0 then (laws_FnExactBothOf.j1 kj24 t259 true a0_0 l0_1 a0_2 a1_0 l1_1 a1_2 t254 t255 t258 t273 t274 t277) else ((laws_eqDiagram.f kj24 t273 t274 t277 t254 t255 t258).bind fun t297 => (if t297 = true then (laws_FnExactBothOf.j1 kj24 t259 (t278 != t259) a0_0 l0_1 a0_2 a1_0 l1_1 a1_2 t254 t255 t258 t273 t274 t277) else (laws_FnExactBothOf.j1 kj24 t259 true a0_0 l0_1 a0_2 a1_0 l1_1 a1_2 t254 t255 t258 t273 t274 t277))))) = some r := H
        have A95 := Aside0.mk A950
        clear A950
        replace H := Option.bind_eq_some_iff.mp H
        obtain ⟨⟨t295, t296⟩, A960, H⟩ := H
        replace H : (if t295 < 0 then (laws_FnExactBothOf.j1 kj24 t259 true a0_0 l0_1 a0_2 a1_0 l1_1 a1_2 t254 t255 t258 t273 t274 t277) else ((laws_eqDiagram.f kj24 t273 t274 t277 t254 t255 t258).bind fun t297 => (if t297 = true then (laws_FnExactBothOf.j1 kj24 t259 (t278 != t259) a0_0 l0_1 a0_2 a1_0 l1_1 a1_2 t254 t255 t258 t273 t274 t277) else (laws_FnExactBothOf.j1 kj24 t259 true a0_0 l0_1 a0_2 a1_0 l1_1 a1_2 t254 t255 t258 t273 t274 t277)))) = some r := H
        have A96 := Aside0.mk A960
        clear A960
        have HC97 := Aside0.mk H
        clear H
        try go_wp2
        replace HO_261001 := Aside0.mk (Kd.R_drew HO_261001.out)
        replace HO_267001 := Aside0.mk (Kd.R_drew HO_267001.out)
        replace HO_273001 := Aside0.mk (Kd.R_drew HO_273001.out)
        replace HO_280001 := Aside0.mk (Kd.R_drew HO_280001.out)
        replace BK240 := Aside0.mk (blk_drew BK240.out)
        replace BK241 := Aside0.mk (blk_drew BK241.out)
        replace BK260 := Aside0.mk (blk_drew BK260.out)
        replace BK266 := Aside0.mk (blk_drew BK266.out)
        replace BK272 := Aside0.mk (blk_drew BK272.out)
        replace BK279 := Aside0.mk (blk_drew BK279.out)
        replace HB := Aside0.mk (below_drew1 HB.out)
        refine start_ (n := 5) (S := fun w' => w'.cell? ⟨gb266, 0, none⟩ = some (.int .i64 t261) ∧ w'.cell? ⟨gb266, 1, none⟩ = some (.slice Ao53 t262.length co53) ∧ w'.cell? ⟨gb266, 2, none⟩ = some (.int .i64 t265) ∧ w'.cell? ⟨gb240, 0, none⟩ = some (.int .i64 a0_0) ∧ w'.cell? ⟨gb240, 1, none⟩ = some (.slice A0_1 l0_1.length c0_1) ∧ w'.cell? ⟨gb240, 2, none⟩ = some (.int .i64 a0_2)) (ds := []) #[false, false, false, false, false] (by kernel_rfl) rfl rfl ⟨(blk_cell BK266.out 0).trans rfl, (blk_cell BK266.out 1).trans rfl, (blk_cell BK266.out 2).trans rfl, (blk_cell BK240.out 0).trans rfl, (blk_cell BK240.out 1).trans rfl, (blk_cell BK240.out 2).trans rfl⟩ (fun hHeld => ?_)
        generalize wc.drew = w98 at HO_261001 HO_267001 HO_273001 HO_280001 BK240 BK241 BK260 BK266 BK272 BK279 HB hHeld ⊢
        refine take_ (i := 0) (N := some 54) (v := ?_) (a' := ?_) #[true, false, false, false, false] rfl rfl (by kernel_rfl) (fun _ _ _ h => h) (Or.inl ⟨by rfl, ?_⟩) hHeld ?_ ?_
        rotate_left
        ·rintro w' ⟨s0, s1, s2, s3, s4, s5⟩
         go_simp
         with_reducible rfl
        rotate_left
        ·simp only [Act.put, List.setIfInBounds_toArray, List.set_cons_zero, List.set_cons_succ, i64_w, i32_w]
         rfl
        refine take_ (i := 1) (N := some 55) (v := ?_) (a' := ?_) #[true, true, false, false, false] rfl rfl (by kernel_rfl) (fun _ _ _ h => h) (Or.inl ⟨by rfl, ?_⟩) hHeld ?_ ?_
        rotate_left
        ·rintro w' ⟨s0, s1, s2, s3, s4, s5⟩
         go_simp
         with_reducible rfl
        rotate_left
        ·simp only [Act.put, List.setIfInBounds_toArray, List.set_cons_zero, List.set_cons_succ, i64_w, i32_w]
         rfl
        refine one_ (i := 2) (N := some 56) #[true, true, true, false, false] rfl rfl (by kernel_rfl) (by decide) (fun K hK => ?_)
        refine goes_ Try.func14 (by kernel_rfl) rfl #[.agg #[.int .i64 a0_0, .slice A0_1 l0_1.length c0_1, .int .i64 a0_2]] (by rfl) rfl rfl (by (try simp only [List.map_toArray, List.map_cons, List.map_nil]); first | done | rfl | (simp only [List.length_drop, List.length_take]; rfl)) ?_
        with_reducible refine (laws_toDiagram.calls kj24 a0_0 _ _ l0_1 a0_2 t281 t282 t285 _ ?side1 ?side2 A89.out).mono ?_
        (case side1 => repeat (first | exact (Kd.C_below HR0_1.out HB.out) | (with_reducible refine Kd.C_alloc ?_ _) | (with_reducible refine Kd.C_drewN ?_ _) | (with_reducible refine Kd.C_drew ?_)))
        (case side2 => exact HC0_1.out)
        rintro e w99 ⟨v283, rfl, ho0, hb⟩
        refine ⟨_, rfl, ?_⟩
        have n0_ := Aside0.mk (Kd.R_elder' (rq_ HO_261001.out) (Kd.R_base ho0) hb)
        have n1_ := Aside0.mk (Kd.R_elder' (rq_ HO_267001.out) (Kd.R_base ho0) hb)
        have n2_ := Aside0.mk (Kd.R_elder' (rq_ HO_273001.out) (Kd.R_base ho0) hb)
        have n3_ := Aside0.mk (Kd.R_elder' (rq_ HO_280001.out) (Kd.R_base ho0) hb)
        have n4_ := Aside0.mk (Kd.R_lower (Kd.R_new' (Kd.R_new' (Kd.R_new' (Kd.R_new' ho0 (Kd.R_lt (rq_ HO_261001.out))) (Kd.R_lt (rq_ HO_267001.out))) (Kd.R_lt (rq_ HO_273001.out))) (Kd.R_lt (rq_ HO_280001.out))) (below_size (bq_)))
        have n5_ := Aside0.mk (blk_below (bk_ BK240.out) hb)
        have n6_ := Aside0.mk (blk_below (bk_ BK241.out) hb)
        have n7_ := Aside0.mk (blk_below (bk_ BK260.out) hb)
        have n8_ := Aside0.mk (blk_below (bk_ BK266.out) hb)
        have n9_ := Aside0.mk (blk_below (bk_ BK272.out) hb)
        have n10_ := Aside0.mk (blk_below (bk_ BK279.out) hb)
        have n11_ := Aside0.mk (below_step (bq_) hb)
        clear HO_261001 HO_267001 HO_273001 HO_280001 BK240 BK241 BK260 BK266 BK272 BK279 HB
        have HO_261001 := n0_
        have HO_267001 := n1_
        have HO_273001 := n2_
        have HO_280001 := n3_
        have HO284 := n4_
        have BK240 := n5_
        have BK241 := n6_
        have BK260 := n7_
        have BK266 := n8_
        have BK272 := n9_
        have BK279 := n10_
        have HB := n11_
        clear n0_ n1_ n2_ n3_ n4_ n5_ n6_ n7_ n8_ n9_ n10_ n11_
        (try clear hb)
        (try clear hb2)
        (try clear hk)
        (try clear hi)
        (try clear ho0)
        obtain ⟨Ao100, co100, eo100⟩ := Kd.R_slice HO284.out
        (first | subst eo100 | (injection eo100 with f1_ f2_ f3_; have f4_ := f1_.symm; have f5_ := f3_.symm; clear f1_ f2_ f3_; subst f4_; subst f5_))
        refine hK.out _ _ ⟨(blk_cell BK266.out 0).trans rfl, (blk_cell BK266.out 1).trans rfl, (blk_cell BK266.out 2).trans rfl, (blk_cell BK240.out 0).trans rfl, (blk_cell BK240.out 1).trans rfl, (blk_cell BK240.out 2).trans rfl⟩ (fun hHeld => ?_)
        clear hK K
        refine norm_ (a' := ?_) ?_ ?_
        rotate_left
        ·show Act.put _ (some 56) _ = _
         simp only [Act.put, List.setIfInBounds_toArray, List.set_cons_zero, List.set_cons_succ, i64_w, i32_w]
         rfl
        refine one_ (i := 3) (N := some 57) #[true, true, true, true, false] rfl rfl (by kernel_rfl) (by decide) (fun K hK => ?_)
        refine goes_ Try.func16 (by kernel_rfl) rfl #[.agg #[.int .i64 t261, .slice Ao53 t262.length co53, .int .i64 t265], .agg #[.int .i64 t281, .slice Ao100 t282.length co100, .int .i64 t285]] (by rfl) rfl rfl (by (try simp only [List.map_toArray, List.map_cons, List.map_nil]); first | done | rfl | (simp only [List.length_drop, List.length_take]; rfl)) ?_
        with_reducible refine (laws_eqDiagram.calls kj24 t261 _ _ t262 t265 t281 _ _ t282 t285 true _ ?side1 ?side2 ?side3 ?side4 A90.out).mono ?_
        (case side1 => repeat (first | exact (Kd.R_reads' HO_267001.out).2.2 | (with_reducible refine Kd.C_alloc ?_ _) | (with_reducible refine Kd.C_drewN ?_ _) | (with_reducible refine Kd.C_drew ?_)))
        (case side2 => exact (Kd.R_reads' HO_267001.out).2.1)
        (case side3 => repeat (first | exact (Kd.R_reads' HO284.out).2.2 | (with_reducible refine Kd.C_alloc ?_ _) | (with_reducible refine Kd.C_drewN ?_ _) | (with_reducible refine Kd.C_drew ?_)))
        (case side4 => exact (Kd.R_reads' HO284.out).2.1)
        rintro e w101 ⟨rfl, hb⟩
        refine ⟨_, rfl, ?_⟩
        replace HO_261001 := Aside0.mk (Kd.R_below (rq_ HO_261001.out) hb)
        replace HO_267001 := Aside0.mk (Kd.R_below (rq_ HO_267001.out) hb)
        replace HO_273001 := Aside0.mk (Kd.R_below (rq_ HO_273001.out) hb)
        replace HO_280001 := Aside0.mk (Kd.R_below (rq_ HO_280001.out) hb)
        replace HO284 := Aside0.mk (Kd.R_below (rq_ HO284.out) hb)
        replace BK240 := Aside0.mk (blk_below (bk_ BK240.out) hb)
        replace BK241 := Aside0.mk (blk_below (bk_ BK241.out) hb)
        replace BK260 := Aside0.mk (blk_below (bk_ BK260.out) hb)
        replace BK266 := Aside0.mk (blk_below (bk_ BK266.out) hb)
        replace BK272 := Aside0.mk (blk_below (bk_ BK272.out) hb)
        replace BK279 := Aside0.mk (blk_below (bk_ BK279.out) hb)
        replace HB := Aside0.mk (below_step (bq_) hb)
        (try clear hb)
        (try clear hb2)
        (try clear hk)
        (try clear hi)
        refine hK.out _ _ ⟨(blk_cell BK266.out 0).trans rfl, (blk_cell BK266.out 1).trans rfl, (blk_cell BK266.out 2).trans rfl, (blk_cell BK240.out 0).trans rfl, (blk_cell BK240.out 1).trans rfl, (blk_cell BK240.out 2).trans rfl⟩ (fun hHeld => ?_)
        clear hK K
        refine norm_ (a' := ?_) ?_ ?_
        rotate_left
        ·show Act.put _ (some 57) _ = _
         simp only [Act.put, List.setIfInBounds_toArray, List.set_cons_zero, List.set_cons_succ, i64_w, i32_w]
         rfl
        refine pure_ (i := 4) (N := some 58) (v := ?_) (a' := ?_) #[true, true, true, true, true] rfl rfl (by kernel_rfl) (fun _ _ _ h => h) (Or.inl ⟨by rfl, ?_⟩) ?_ ?_
        rotate_left
        ·intro w'
         go_simp
         with_reducible rfl
        rotate_left
        ·simp only [Act.put, List.setIfInBounds_toArray, List.set_cons_zero, List.set_cons_succ, i64_w, i32_w]
         rfl
        refine done_ (by kernel_rfl) ?_
        try go_wp2
        replace HO_261001 := Aside0.mk (Kd.R_drew HO_261001.out)
        replace HO_267001 := Aside0.mk (Kd.R_drew HO_267001.out)
        replace HO_273001 := Aside0.mk (Kd.R_drew HO_273001.out)
        replace HO_280001 := Aside0.mk (Kd.R_drew HO_280001.out)
        replace HO284 := Aside0.mk (Kd.R_drew HO284.out)
        replace BK240 := Aside0.mk (blk_drew BK240.out)
        replace BK241 := Aside0.mk (blk_drew BK241.out)
        replace BK260 := Aside0.mk (blk_drew BK260.out)
        replace BK266 := Aside0.mk (blk_drew BK266.out)
        replace BK272 := Aside0.mk (blk_drew BK272.out)
        replace BK279 := Aside0.mk (blk_drew BK279.out)
        replace HB := Aside0.mk (below_drew1 HB.out)
        refine start_ (n := 5) (S := fun w' => w'.cell? ⟨gb272, 0, none⟩ = some (.int .i64 t267) ∧ w'.cell? ⟨gb272, 1, none⟩ = some (.slice Ao63 t268.length co63) ∧ w'.cell? ⟨gb272, 2, none⟩ = some (.int .i64 t271) ∧ w'.cell? ⟨gb241, 0, none⟩ = some (.int .i64 a1_0) ∧ w'.cell? ⟨gb241, 1, none⟩ = some (.slice A1_1 l1_1.length c1_1) ∧ w'.cell? ⟨gb241, 2, none⟩ = some (.int .i64 a1_2)) (ds := []) #[false, false, false, false, false] (by kernel_rfl) rfl rfl ⟨(blk_cell BK272.out 0).trans rfl, (blk_cell BK272.out 1).trans rfl, (blk_cell BK272.out 2).trans rfl, (blk_cell BK241.out 0).trans rfl, (blk_cell BK241.out 1).trans rfl, (blk_cell BK241.out 2).trans rfl⟩ (fun hHeld => ?_)
        generalize w101.drew = w102 at HO_261001 HO_267001 HO_273001 HO_280001 HO284 BK240 BK241 BK260 BK266 BK272 BK279 HB hHeld ⊢
        refine take_ (i := 0) (N := some 59) (v := ?_) (a' := ?_) #[true, false, false, false, false] rfl rfl (by kernel_rfl) (fun _ _ _ h => h) (Or.inl ⟨by rfl, ?_⟩) hHeld ?_ ?_
        rotate_left
        ·rintro w' ⟨s0, s1, s2, s3, s4, s5⟩
         go_simp
         with_reducible rfl
        rotate_left
        ·simp only [Act.put, List.setIfInBounds_toArray, List.set_cons_zero, List.set_cons_succ, i64_w, i32_w]
         rfl
        refine take_ (i := 1) (N := some 60) (v := ?_) (a' := ?_) #[true, true, false, false, false] rfl rfl (by kernel_rfl) (fun _ _ _ h => h) (Or.inl ⟨by rfl, ?_⟩) hHeld ?_ ?_
        rotate_left
        ·rintro w' ⟨s0, s1, s2, s3, s4, s5⟩
         go_simp
         with_reducible rfl
        rotate_left
        ·simp only [Act.put, List.setIfInBounds_toArray, List.set_cons_zero, List.set_cons_succ, i64_w, i32_w]
         rfl
        refine one_ (i := 2) (N := some 61) #[true, true, true, false, false] rfl rfl (by kernel_rfl) (by decide) (fun K hK => ?_)
        refine goes_ Try.func14 (by kernel_rfl) rfl #[.agg #[.int .i64 a1_0, .slice A1_1 l1_1.length c1_1, .int .i64 a1_2]] (by rfl) rfl rfl (by (try simp only [List.map_toArray, List.map_cons, List.map_nil]); first | done | rfl | (simp only [List.length_drop, List.length_take]; rfl)) ?_
        with_reducible refine (laws_toDiagram.calls kj24 a1_0 _ _ l1_1 a1_2 t287 t288 t291 _ ?side1 ?side2 A92.out).mono ?_
        (case side1 => repeat (first | exact (Kd.C_below HR1_1.out HB.out) | (with_reducible refine Kd.C_alloc ?_ _) | (with_reducible refine Kd.C_drewN ?_ _) | (with_reducible refine Kd.C_drew ?_)))
        (case side2 => exact HC1_1.out)
        rintro e w103 ⟨v289, rfl, ho0, hb⟩
        refine ⟨_, rfl, ?_⟩
        have n0_ := Aside0.mk (Kd.R_elder' (rq_ HO_261001.out) (Kd.R_base ho0) hb)
        have n1_ := Aside0.mk (Kd.R_elder' (rq_ HO_267001.out) (Kd.R_base ho0) hb)
        have n2_ := Aside0.mk (Kd.R_elder' (rq_ HO_273001.out) (Kd.R_base ho0) hb)
        have n3_ := Aside0.mk (Kd.R_elder' (rq_ HO_280001.out) (Kd.R_base ho0) hb)
        have n4_ := Aside0.mk (Kd.R_elder' (rq_ HO284.out) (Kd.R_base ho0) hb)
        have n5_ := Aside0.mk (Kd.R_lower (Kd.R_new' (Kd.R_new' (Kd.R_new' (Kd.R_new' (Kd.R_new' ho0 (Kd.R_lt (rq_ HO_261001.out))) (Kd.R_lt (rq_ HO_267001.out))) (Kd.R_lt (rq_ HO_273001.out))) (Kd.R_lt (rq_ HO_280001.out))) (Kd.R_lt (rq_ HO284.out))) (below_size (bq_)))
        have n6_ := Aside0.mk (blk_below (bk_ BK240.out) hb)
        have n7_ := Aside0.mk (blk_below (bk_ BK241.out) hb)
        have n8_ := Aside0.mk (blk_below (bk_ BK260.out) hb)
        have n9_ := Aside0.mk (blk_below (bk_ BK266.out) hb)
        have n10_ := Aside0.mk (blk_below (bk_ BK272.out) hb)
        have n11_ := Aside0.mk (blk_below (bk_ BK279.out) hb)
        have n12_ := Aside0.mk (below_step (bq_) hb)
        clear HO_261001 HO_267001 HO_273001 HO_280001 HO284 BK240 BK241 BK260 BK266 BK272 BK279 HB
        have HO_261001 := n0_
        have HO_267001 := n1_
        have HO_273001 := n2_
        have HO_280001 := n3_
        have HO284 := n4_
        have HO290 := n5_
        have BK240 := n6_
        have BK241 := n7_
        have BK260 := n8_
        have BK266 := n9_
        have BK272 := n10_
        have BK279 := n11_
        have HB := n12_
        clear n0_ n1_ n2_ n3_ n4_ n5_ n6_ n7_ n8_ n9_ n10_ n11_ n12_
        (try clear hb)
        (try clear hb2)
        (try clear hk)
        (try clear hi)
        (try clear ho0)
        obtain ⟨Ao104, co104, eo104⟩ := Kd.R_slice HO290.out
        (first | subst eo104 | (injection eo104 with f1_ f2_ f3_; have f4_ := f1_.symm; have f5_ := f3_.symm; clear f1_ f2_ f3_; subst f4_; subst f5_))
        refine hK.out _ _ ⟨(blk_cell BK272.out 0).trans rfl, (blk_cell BK272.out 1).trans rfl, (blk_cell BK272.out 2).trans rfl, (blk_cell BK241.out 0).trans rfl, (blk_cell BK241.out 1).trans rfl, (blk_cell BK241.out 2).trans rfl⟩ (fun hHeld => ?_)
        clear hK K
        refine norm_ (a' := ?_) ?_ ?_
        rotate_left
        ·show Act.put _ (some 61) _ = _
         simp only [Act.put, List.setIfInBounds_toArray, List.set_cons_zero, List.set_cons_succ, i64_w, i32_w]
         rfl
        refine one_ (i := 3) (N := some 62) #[true, true, true, true, false] rfl rfl (by kernel_rfl) (by decide) (fun K hK => ?_)
        refine goes_ Try.func16 (by kernel_rfl) rfl #[.agg #[.int .i64 t267, .slice Ao63 t268.length co63, .int .i64 t271], .agg #[.int .i64 t287, .slice Ao104 t288.length co104, .int .i64 t291]] (by rfl) rfl rfl (by (try simp only [List.map_toArray, List.map_cons, List.map_nil]); first | done | rfl | (simp only [List.length_drop, List.length_take]; rfl)) ?_
        with_reducible refine (laws_eqDiagram.calls kj24 t267 _ _ t268 t271 t287 _ _ t288 t291 true _ ?side1 ?side2 ?side3 ?side4 A93.out).mono ?_
        (case side1 => repeat (first | exact (Kd.R_reads' HO_273001.out).2.2 | (with_reducible refine Kd.C_alloc ?_ _) | (with_reducible refine Kd.C_drewN ?_ _) | (with_reducible refine Kd.C_drew ?_)))
        (case side2 => exact (Kd.R_reads' HO_273001.out).2.1)
        (case side3 => repeat (first | exact (Kd.R_reads' HO290.out).2.2 | (with_reducible refine Kd.C_alloc ?_ _) | (with_reducible refine Kd.C_drewN ?_ _) | (with_reducible refine Kd.C_drew ?_)))
        (case side4 => exact (Kd.R_reads' HO290.out).2.1)
        rintro e w105 ⟨rfl, hb⟩
        refine ⟨_, rfl, ?_⟩
        replace HO_261001 := Aside0.mk (Kd.R_below (rq_ HO_261001.out) hb)
        replace HO_267001 := Aside0.mk (Kd.R_below (rq_ HO_267001.out) hb)
        replace HO_273001 := Aside0.mk (Kd.R_below (rq_ HO_273001.out) hb)
        replace HO_280001 := Aside0.mk (Kd.R_below (rq_ HO_280001.out) hb)
        replace HO284 := Aside0.mk (Kd.R_below (rq_ HO284.out) hb)
        replace HO290 := Aside0.mk (Kd.R_below (rq_ HO290.out) hb)
        replace BK240 := Aside0.mk (blk_below (bk_ BK240.out) hb)
        replace BK241 := Aside0.mk (blk_below (bk_ BK241.out) hb)
        replace BK260 := Aside0.mk (blk_below (bk_ BK260.out) hb)
        replace BK266 := Aside0.mk (blk_below (bk_ BK266.out) hb)
        replace BK272 := Aside0.mk (blk_below (bk_ BK272.out) hb)
        replace BK279 := Aside0.mk (blk_below (bk_ BK279.out) hb)
        replace HB := Aside0.mk (below_step (bq_) hb)
        (try clear hb)
        (try clear hb2)
        (try clear hk)
        (try clear hi)
        refine hK.out _ _ ⟨(blk_cell BK272.out 0).trans rfl, (blk_cell BK272.out 1).trans rfl, (blk_cell BK272.out 2).trans rfl, (blk_cell BK241.out 0).trans rfl, (blk_cell BK241.out 1).trans rfl, (blk_cell BK241.out 2).trans rfl⟩ (fun hHeld => ?_)
        clear hK K
        refine norm_ (a' := ?_) ?_ ?_
        rotate_left
        ·show Act.put _ (some 62) _ = _
         simp only [Act.put, List.setIfInBounds_toArray, List.set_cons_zero, List.set_cons_succ, i64_w, i32_w]
         rfl
        refine pure_ (i := 4) (N := some 63) (v := ?_) (a' := ?_) #[true, true, true, true, true] rfl rfl (by kernel_rfl) (fun _ _ _ h => h) (Or.inl ⟨by rfl, ?_⟩) ?_ ?_
        rotate_left
        ·intro w'
         go_simp
         with_reducible rfl
        rotate_left
        ·simp only [Act.put, List.setIfInBounds_toArray, List.set_cons_zero, List.set_cons_succ, i64_w, i32_w]
         rfl
        refine done_ (by kernel_rfl) ?_
        have hnb106 := NB266_240.out
        have hnc106 := NB240_266.out
        have hnb107 := NB266_241.out
        have hnc107 := NB241_266.out
        have hnb108 := NB266_260.out
        have hnc108 := NB260_266.out
        have hnb109 := NB266_272.out
        have hnc109 := NB272_266.out
        have hnb110 := NB266_279.out
        have hnc110 := NB279_266.out
        have hcz111_0 := cq_ BK266.out 0 (.int .i64 t261)
        have hcz111_1 := cq_ BK266.out 1 (.slice Ao53 t262.length co53)
        have hcz111_2 := cq_ BK266.out 2 (.int .i64 t265)
        have hfz111_0 := blk_frozen BK266.out 0
        have hfz111_1 := blk_frozen BK266.out 1
        have hfz111_2 := blk_frozen BK266.out 2
        go_upto_region 21 with (first | ((with_reducible refine gate_callee (f := 23) rfl ?_); refine goesL_ (some 66) rfl rfl Try.func23 (by kernel_rfl) rfl #[.agg #[.int .i64 t261, .slice Ao53 t262.length co53, .int .i64 t265], .int .i64 1] rfl (by (try simp only [List.map_toArray, List.map_cons, List.map_nil]); first | done | rfl | (simp only [List.length_drop, List.length_take]; rfl)) ?_; (with_reducible refine (laws_markDiagram.calls kj24 t261 (fun k_ => some k_ = (.slice Ao53 t262.length co53 : Value).ownBlock) (.slice Ao53 t262.length co53) t262 t265 1 t293 t294 w _ ?side1 ?side2 A95.out).mono ?_); (case side1 => repeat (first | (with_reducible first | exact HB.out | apply below_alloc | apply pw_below_drewN | apply below_drew1 | refine below_set ?_ GE240.out | refine below_set ?_ GE241.out | refine below_set ?_ GE260.out | refine below_set ?_ GE266.out | refine below_set ?_ GE272.out | refine below_set ?_ GE279.out) | exact HB.out)); (case side2 => exact Kd.R_tight rfl HO_267001.out); rintro e w112 ⟨rfl, hy0, hb, hkp⟩; refine ⟨_, rfl, ?_⟩; have n0_ := Aside0.mk (Kd.R_mono (ok' := fun k_ => some k_ ≠ (.slice Ao53 t262.length co53 : Value).ownBlock ∧ some k_ ≠ (.slice Ao63 t268.length co63 : Value).ownBlock ∧ some k_ ≠ (.slice Ao73 t274.length co73 : Value).ownBlock ∧ some k_ ≠ (.slice Ao100 t282.length co100 : Value).ownBlock ∧ some k_ ≠ (.slice Ao104 t288.length co104 : Value).ownBlock) (Kd.R_keptB (HO_261001.out) hkp (fun k_ hk_ hs_ => (hk_.1.1.1) hs_)) (fun k_ hk_ => ⟨hk_.1.1.1.1, hk_.1.1.1.2.1, hk_.1.1.1.2.2, hk_.1.1.2, hk_.1.2⟩)); have n1_ := Aside0.mk (Kd.R_reok rfl hy0 (fun k_ e_ => HO_267001.out.1 k_ e_)); have n2_ := Aside0.mk (Kd.R_mono (ok' := fun k_ => some k_ ≠ (.slice Ao42 t255.length co42 : Value).ownBlock ∧ some k_ ≠ (.slice Ao53 t262.length co53 : Value).ownBlock ∧ some k_ ≠ (.slice Ao73 t274.length co73 : Value).ownBlock ∧ some k_ ≠ (.slice Ao100 t282.length co100 : Value).ownBlock ∧ some k_ ≠ (.slice Ao104 t288.length co104 : Value).ownBlock) (Kd.R_keptB (HO_273001.out) hkp (fun k_ hk_ hs_ => (hk_.1.1.2.1) hs_)) (fun k_ hk_ => ⟨hk_.1.1.1.1, hk_.1.1.1.2.1, hk_.1.1.1.2.2, hk_.1.1.2, hk_.1.2⟩)); have n3_ := Aside0.mk (Kd.R_mono (ok' := fun k_ => some k_ ≠ (.slice Ao42 t255.length co42 : Value).ownBlock ∧ some k_ ≠ (.slice Ao53 t262.length co53 : Value).ownBlock ∧ some k_ ≠ (.slice Ao63 t268.length co63 : Value).ownBlock ∧ some k_ ≠ (.slice Ao100 t282.length co100 : Value).ownBlock ∧ some k_ ≠ (.slice Ao104 t288.length co104 : Value).ownBlock) (Kd.R_keptB (HO_280001.out) hkp (fun k_ hk_ hs_ => (hk_.1.1.2.1) hs_)) (fun k_ hk_ => ⟨hk_.1.1.1.1, hk_.1.1.1.2.1, hk_.1.1.1.2.2, hk_.1.1.2, hk_.1.2⟩)); have n4_ := Aside0.mk (blk_kept (bk_ BK240.out) hkp (fun hs_ => (fun e_ => (Kd.R_ne HO_267001.out BK240.out (by decide)) e_) hs_)); have n5_ := Aside0.mk (blk_kept (bk_ BK241.out) hkp (fun hs_ => (fun e_ => (Kd.R_ne HO_267001.out BK241.out (by decide)) e_) hs_)); have n6_ := Aside0.mk (blk_kept (bk_ BK260.out) hkp (fun hs_ => (fun e_ => (Kd.R_ne HO_267001.out BK260.out (by decide)) e_) hs_)); have n7_ := Aside0.mk (blk_kept (bk_ BK266.out) hkp (fun hs_ => (fun e_ => (Kd.R_ne HO_267001.out BK266.out (by decide)) e_) hs_)); have n8_ := Aside0.mk (blk_kept (bk_ BK272.out) hkp (fun hs_ => (fun e_ => (Kd.R_ne HO_267001.out BK272.out (by decide)) e_) hs_)); have n9_ := Aside0.mk (blk_kept (bk_ BK279.out) hkp (fun hs_ => (fun e_ => (Kd.R_ne HO_267001.out BK279.out (by decide)) e_) hs_)); have n10_ := Aside0.mk (Kd.R_mono (ok' := fun k_ => some k_ ≠ (.slice Ao42 t255.length co42 : Value).ownBlock ∧ some k_ ≠ (.slice Ao53 t262.length co53 : Value).ownBlock ∧ some k_ ≠ (.slice Ao63 t268.length co63 : Value).ownBlock ∧ some k_ ≠ (.slice Ao73 t274.length co73 : Value).ownBlock ∧ some k_ ≠ (.slice Ao104 t288.length co104 : Value).ownBlock) (Kd.R_keptB (HO284.out) hkp (fun k_ hk_ hs_ => (hk_.1.1.1.2) hs_)) (fun k_ hk_ => ⟨hk_.1.1.1.1.1.2, hk_.1.1.1.1.2, hk_.1.1.1.2, hk_.1.1.2, hk_.1.2⟩)); have n11_ := Aside0.mk (Kd.R_mono (ok' := fun k_ => some k_ ≠ (.slice Ao42 t255.length co42 : Value).ownBlock ∧ some k_ ≠ (.slice Ao53 t262.length co53 : Value).ownBlock ∧ some k_ ≠ (.slice Ao63 t268.length co63 : Value).ownBlock ∧ some k_ ≠ (.slice Ao73 t274.length co73 : Value).ownBlock ∧ some k_ ≠ (.slice Ao100 t282.length co100 : Value).ownBlock) (Kd.R_keptB (HO290.out) hkp (fun k_ hk_ hs_ => (hk_.1.1.1.2) hs_)) (fun k_ hk_ => ⟨hk_.1.1.1.1.1.2, hk_.1.1.1.1.2, hk_.1.1.1.2, hk_.1.1.2, hk_.1.2⟩)); have n12_ := Aside0.mk (hb); clear HO_261001; clear HO_267001; clear HO_273001; clear HO_280001; clear BK240; clear BK241; clear BK260; clear BK266; clear BK272; clear BK279; clear HO284; clear HO290; clear HB; have HO_261001 := n0_; have HO_267001 := n1_; have HO_273001 := n2_; have HO_280001 := n3_; have BK240 := n4_; have BK241 := n5_; have BK260 := n6_; have BK266 := n7_; have BK272 := n8_; have BK279 := n9_; have HO284 := n10_; have HO290 := n11_; have HB := n12_; clear n0_ n1_ n2_ n3_ n4_ n5_ n6_ n7_ n8_ n9_ n10_ n11_ n12_; (try clear hb); (try clear hkp); (try clear hy0); have hnb113 := NB272_240.out; have hnc113 := NB240_272.out; have hnb114 := NB272_241.out; have hnc114 := NB241_272.out; have hnb115 := NB272_260.out; have hnc115 := NB260_272.out; have hnb116 := NB272_279.out; have hnc116 := NB279_272.out; have hcz117_0 := cq_ BK272.out 0 (.int .i64 t267); have hcz117_1 := cq_ BK272.out 1 (.slice Ao63 t268.length co63); have hcz117_2 := cq_ BK272.out 2 (.int .i64 t271); have hfz117_0 := blk_frozen BK272.out 0; have hfz117_1 := blk_frozen BK272.out 1; have hfz117_2 := blk_frozen BK272.out 2) | ((with_reducible refine gate_callee (f := 23) rfl ?_); refine goesL_ (some 69) rfl rfl Try.func23 (by kernel_rfl) rfl #[.agg #[.int .i64 t267, .slice Ao63 t268.length co63, .int .i64 t271], .int .i64 t293] rfl (by (try simp only [List.map_toArray, List.map_cons, List.map_nil]); first | done | rfl | (simp only [List.length_drop, List.length_take]; rfl)) ?_; (with_reducible refine (laws_markDiagram.calls kj24 t267 (fun k_ => some k_ = (.slice Ao63 t268.length co63 : Value).ownBlock) (.slice Ao63 t268.length co63) t268 t271 t293 t295 t296 w _ ?side1 ?side2 A96.out).mono ?_); (case side1 => repeat (first | (with_reducible first | exact HB.out | apply below_alloc | apply pw_below_drewN | apply below_drew1 | refine below_set ?_ GE240.out | refine below_set ?_ GE241.out | refine below_set ?_ GE260.out | refine below_set ?_ GE266.out | refine below_set ?_ GE272.out | refine below_set ?_ GE279.out) | exact HB.out)); (case side2 => exact Kd.R_tight rfl HO_273001.out); rintro e w118 ⟨rfl, hy0, hb, hkp⟩; refine ⟨_, rfl, ?_⟩; have n0_ := Aside0.mk (Kd.R_mono (ok' := fun k_ => some k_ ≠ (.slice Ao53 t262.length co53 : Value).ownBlock ∧ some k_ ≠ (.slice Ao63 t268.length co63 : Value).ownBlock ∧ some k_ ≠ (.slice Ao73 t274.length co73 : Value).ownBlock ∧ some k_ ≠ (.slice Ao100 t282.length co100 : Value).ownBlock ∧ some k_ ≠ (.slice Ao104 t288.length co104 : Value).ownBlock) (Kd.R_keptB (HO_261001.out) hkp (fun k_ hk_ hs_ => (hk_.2.1) hs_)) (fun k_ hk_ => ⟨hk_.1.1, hk_.1.2.1, hk_.1.2.2.1, hk_.1.2.2.2.1, hk_.1.2.2.2.2⟩)); have n1_ := Aside0.mk (Kd.R_mono (ok' := fun k_ => some k_ ≠ (.slice Ao42 t255.length co42 : Value).ownBlock ∧ some k_ ≠ (.slice Ao63 t268.length co63 : Value).ownBlock ∧ some k_ ≠ (.slice Ao73 t274.length co73 : Value).ownBlock ∧ some k_ ≠ (.slice Ao100 t282.length co100 : Value).ownBlock ∧ some k_ ≠ (.slice Ao104 t288.length co104 : Value).ownBlock) (Kd.R_keptB (HO_267001.out) hkp (fun k_ hk_ hs_ => (hk_.1.1.2.1) hs_)) (fun k_ hk_ => ⟨hk_.1.1.1.1, hk_.1.1.1.2.1, hk_.1.1.1.2.2, hk_.1.1.2, hk_.1.2⟩)); have n2_ := Aside0.mk (Kd.R_reok rfl hy0 (fun k_ e_ => HO_273001.out.1 k_ e_)); have n3_ := Aside0.mk (Kd.R_mono (ok' := fun k_ => some k_ ≠ (.slice Ao42 t255.length co42 : Value).ownBlock ∧ some k_ ≠ (.slice Ao53 t262.length co53 : Value).ownBlock ∧ some k_ ≠ (.slice Ao63 t268.length co63 : Value).ownBlock ∧ some k_ ≠ (.slice Ao100 t282.length co100 : Value).ownBlock ∧ some k_ ≠ (.slice Ao104 t288.length co104 : Value).ownBlock) (Kd.R_keptB (HO_280001.out) hkp (fun k_ hk_ hs_ => (hk_.2.2.1) hs_)) (fun k_ hk_ => ⟨hk_.1.1, hk_.1.2.1, hk_.1.2.2.1, hk_.1.2.2.2.1, hk_.1.2.2.2.2⟩)); have n4_ := Aside0.mk (blk_kept (bk_ BK240.out) hkp (fun hs_ => (fun e_ => (Kd.R_ne HO_273001.out BK240.out (by decide)) e_) hs_)); have n5_ := Aside0.mk (blk_kept (bk_ BK241.out) hkp (fun hs_ => (fun e_ => (Kd.R_ne HO_273001.out BK241.out (by decide)) e_) hs_)); have n6_ := Aside0.mk (blk_kept (bk_ BK260.out) hkp (fun hs_ => (fun e_ => (Kd.R_ne HO_273001.out BK260.out (by decide)) e_) hs_)); have n7_ := Aside0.mk (blk_kept (bk_ BK266.out) hkp (fun hs_ => (fun e_ => (Kd.R_ne HO_273001.out BK266.out (by decide)) e_) hs_)); have n8_ := Aside0.mk (blk_kept (bk_ BK272.out) hkp (fun hs_ => (fun e_ => (Kd.R_ne HO_273001.out BK272.out (by decide)) e_) hs_)); have n9_ := Aside0.mk (blk_kept (bk_ BK279.out) hkp (fun hs_ => (fun e_ => (Kd.R_ne HO_273001.out BK279.out (by decide)) e_) hs_)); have n10_ := Aside0.mk (Kd.R_mono (ok' := fun k_ => some k_ ≠ (.slice Ao42 t255.length co42 : Value).ownBlock ∧ some k_ ≠ (.slice Ao53 t262.length co53 : Value).ownBlock ∧ some k_ ≠ (.slice Ao63 t268.length co63 : Value).ownBlock ∧ some k_ ≠ (.slice Ao73 t274.length co73 : Value).ownBlock ∧ some k_ ≠ (.slice Ao104 t288.length co104 : Value).ownBlock) (Kd.R_keptB (HO284.out) hkp (fun k_ hk_ hs_ => (hk_.2.2.1) hs_)) (fun k_ hk_ => ⟨hk_.1.1, hk_.1.2.1, hk_.1.2.2.1, hk_.1.2.2.2.1, hk_.1.2.2.2.2⟩)); have n11_ := Aside0.mk (Kd.R_mono (ok' := fun k_ => some k_ ≠ (.slice Ao42 t255.length co42 : Value).ownBlock ∧ some k_ ≠ (.slice Ao53 t262.length co53 : Value).ownBlock ∧ some k_ ≠ (.slice Ao63 t268.length co63 : Value).ownBlock ∧ some k_ ≠ (.slice Ao73 t274.length co73 : Value).ownBlock ∧ some k_ ≠ (.slice Ao100 t282.length co100 : Value).ownBlock) (Kd.R_keptB (HO290.out) hkp (fun k_ hk_ hs_ => (hk_.2.2.1) hs_)) (fun k_ hk_ => ⟨hk_.1.1, hk_.1.2.1, hk_.1.2.2.1, hk_.1.2.2.2.1, hk_.1.2.2.2.2⟩)); have n12_ := Aside0.mk (hb); clear HO_261001; clear HO_267001; clear HO_273001; clear HO_280001; clear BK240; clear BK241; clear BK260; clear BK266; clear BK272; clear BK279; clear HO284; clear HO290; clear HB; have HO_261001 := n0_; have HO_267001 := n1_; have HO_273001 := n2_; have HO_280001 := n3_; have BK240 := n4_; have BK241 := n5_; have BK260 := n6_; have BK266 := n7_; have BK272 := n8_; have BK279 := n9_; have HO284 := n10_; have HO290 := n11_; have HB := n12_; clear n0_ n1_ n2_ n3_ n4_ n5_ n6_ n7_ n8_ n9_ n10_ n11_ n12_; (try clear hb); (try clear hkp); (try clear hy0)))
        (try simp only [Act.put, List.setIfInBounds_toArray, List.set_cons_zero, List.set_cons_succ])
        go_cut [82] (fun v82 wc => ∃ (kq : Nat) (x82_96 : Bool), v82 = .bool x82_96 ∧ Aside0 (laws_FnExactBothOf.j1 kq t259 x82_96 a0_0 l0_1 a0_2 a1_0 l1_1 a1_2 t254 t255 t258 t273 t274 t277 = some r) ∧ Aside0 (kq ≤ kj24) ∧ Aside0 (Kd.R k75 75 wc w.heap.size (fun k_ => some k_ ≠ ((.slice Ao53 t262.length co53) : Value).ownBlock ∧ some k_ ≠ ((.slice Ao63 t268.length co63) : Value).ownBlock ∧ some k_ ≠ ((.slice Ao73 t274.length co73) : Value).ownBlock) (.slice Ao42 t255.length co42) t255) ∧ Aside0 (Kd.R k75 75 wc w.heap.size (fun k_ => some k_ ≠ ((.slice Ao42 t255.length co42) : Value).ownBlock ∧ some k_ ≠ ((.slice Ao63 t268.length co63) : Value).ownBlock ∧ some k_ ≠ ((.slice Ao73 t274.length co73) : Value).ownBlock) (.slice Ao53 t262.length co53) t294) ∧ Aside0 (Kd.R k75 75 wc w.heap.size (fun k_ => some k_ ≠ ((.slice Ao42 t255.length co42) : Value).ownBlock ∧ some k_ ≠ ((.slice Ao53 t262.length co53) : Value).ownBlock ∧ some k_ ≠ ((.slice Ao73 t274.length co73) : Value).ownBlock) (.slice Ao63 t268.length co63) t296) ∧ Aside0 (Kd.R k75 75 wc w.heap.size (fun k_ => some k_ ≠ ((.slice Ao42 t255.length co42) : Value).ownBlock ∧ some k_ ≠ ((.slice Ao53 t262.length co53) : Value).ownBlock ∧ some k_ ≠ ((.slice Ao63 t268.length co63) : Value).ownBlock) (.slice Ao73 t274.length co73) t274) ∧ Aside0 (wc.heap[gb240]? = some (.cells #[.int .i64 a0_0, (.slice A0_1 l0_1.length c0_1), .int .i64 a0_2] 24 (0, 0))) ∧ Aside0 (wc.heap[gb241]? = some (.cells #[.int .i64 a1_0, (.slice A1_1 l1_1.length c1_1), .int .i64 a1_2] 24 (0, 0))) ∧ Aside0 (wc.heap[gb260]? = some (.cells #[.int .i64 t254, (.slice Ao42 t255.length co42), .int .i64 t258] 30 (0, 0))) ∧ Aside0 (wc.heap[gb266]? = some (.cells #[.int .i64 t261, (.slice Ao53 t262.length co53), .int .i64 t265] 30 (0, 0))) ∧ Aside0 (wc.heap[gb272]? = some (.cells #[.int .i64 t267, (.slice Ao63 t268.length co63), .int .i64 t271] 30 (0, 0))) ∧ Aside0 (wc.heap[gb279]? = some (.cells #[.int .i64 t273, (.slice Ao73 t274.length co73), .int .i64 t277] 30 (0, 0))) ∧ Aside0 (Below w.heap.size w wc))
        case first =>
         have H := HC97.out
         clear HC97
         by_cases c119 : t295 < 0
         ·rw [if_pos c119] at H
          have c119b0 : decide (t295 < 0) = true := decide_eq_true c119
          clear c119
          (first | rw [c119b0] | (simp only [i64_w, i32_w]; rw [c119b0]) | skip)
          exact (laws_FnExactBothOf.j1_no_1 (by rw [hr_.out] at H; exact H)).elim
         ·rw [if_neg c119] at H
          have c119b0 : decide (t295 < 0) = false := decide_eq_false c119
          clear c119
          (first | rw [c119b0] | (simp only [i64_w, i32_w]; rw [c119b0]) | skip)
          replace H := Option.bind_eq_some_iff.mp H
          obtain ⟨t297, A1200, H⟩ := H
          replace H : (if t297 = true then (laws_FnExactBothOf.j1 kj24 t259 (t278 != t259) a0_0 l0_1 a0_2 a1_0 l1_1 a1_2 t254 t255 t258 t273 t274 t277) else (laws_FnExactBothOf.j1 kj24 t259 true a0_0 l0_1 a0_2 a1_0 l1_1 a1_2 t254 t255 t258 t273 t274 t277)) = some r := H
          have A120 := Aside0.mk A1200
          clear A1200
          by_cases c121 : t297 = true
          ·subst c121
           have H1 : (laws_FnExactBothOf.j1 kj24 t259 (t278 != t259) a0_0 l0_1 a0_2 a1_0 l1_1 a1_2 t254 t255 t258 t273 t274 t277) = some r := by rw [if_pos rfl] at H; exact H
           clear H
           have H := H1
           clear H1
           have H' := Aside0.mk H
           clear H
           have hnb122 := NB279_240.out
           have hnc122 := NB240_279.out
           have hnb123 := NB279_241.out
           have hnc123 := NB241_279.out
           have hnb124 := NB279_260.out
           have hnc124 := NB260_279.out
           have hnb125 := NB279_266.out
           have hnc125 := NB266_279.out
           have hnb126 := NB279_272.out
           have hnc126 := NB272_279.out
           have hcz127_0 := cq_ BK279.out 0 (.int .i64 t273)
           have hcz127_1 := cq_ BK279.out 1 (.slice Ao73 t274.length co73)
           have hcz127_2 := cq_ BK279.out 2 (.int .i64 t277)
           have hfz127_0 := blk_frozen BK279.out 0
           have hfz127_1 := blk_frozen BK279.out 1
           have hfz127_2 := blk_frozen BK279.out 2
           have hnb128 := NB260_240.out
           have hnc128 := NB240_260.out
           have hnb129 := NB260_241.out
           have hnc129 := NB241_260.out
           have hnb130 := NB260_266.out
           have hnc130 := NB266_260.out
           have hnb131 := NB260_272.out
           have hnc131 := NB272_260.out
           have hcz132_0 := cq_ BK260.out 0 (.int .i64 t254)
           have hcz132_1 := cq_ BK260.out 1 (.slice Ao42 t255.length co42)
           have hcz132_2 := cq_ BK260.out 2 (.int .i64 t258)
           have hfz132_0 := blk_frozen BK260.out 0
           have hfz132_1 := blk_frozen BK260.out 1
           have hfz132_2 := blk_frozen BK260.out 2
           go_wp2_with (first | (go_at_call 16; (with_reducible refine (laws_eqDiagram.calls kj24 t273 _ _ t274 t277 t254 _ _ t255 t258 true _ ?side1 ?side2 ?side3 ?side4 A120.out).mono ?_); (case side1 => repeat (first | exact (Kd.R_reads' HO_280001.out).2.2 | (with_reducible refine Kd.C_alloc ?_ _) | (with_reducible refine Kd.C_drewN ?_ _) | (with_reducible refine Kd.C_drew ?_))); (case side2 => exact (Kd.R_reads' HO_280001.out).2.1); (case side3 => repeat (first | exact (Kd.R_reads' HO_261001.out).2.2 | (with_reducible refine Kd.C_alloc ?_ _) | (with_reducible refine Kd.C_drewN ?_ _) | (with_reducible refine Kd.C_drew ?_))); (case side4 => exact (Kd.R_reads' HO_261001.out).2.1); rintro e w133 ⟨rfl, hb⟩; have n0_ := Aside0.mk (Kd.R_below (rq_ HO_261001.out) hb); have n1_ := Aside0.mk (Kd.R_below (rq_ HO_267001.out) hb); have n2_ := Aside0.mk (Kd.R_below (rq_ HO_273001.out) hb); have n3_ := Aside0.mk (Kd.R_below (rq_ HO_280001.out) hb); have n4_ := Aside0.mk (Kd.R_below (rq_ HO284.out) hb); have n5_ := Aside0.mk (Kd.R_below (rq_ HO290.out) hb); have n6_ := Aside0.mk (blk_below (bk_ BK240.out) hb); have n7_ := Aside0.mk (blk_below (bk_ BK241.out) hb); have n8_ := Aside0.mk (blk_below (bk_ BK260.out) hb); have n9_ := Aside0.mk (blk_below (bk_ BK266.out) hb); have n10_ := Aside0.mk (blk_below (bk_ BK272.out) hb); have n11_ := Aside0.mk (blk_below (bk_ BK279.out) hb); have n12_ := Aside0.mk (below_step (bq_) hb); clear HO_261001; clear HO_267001; clear HO_273001; clear HO_280001; clear HO284; clear HO290; clear BK240; clear BK241; clear BK260; clear BK266; clear BK272; clear BK279; clear HB; have HO_261001 := n0_; have HO_267001 := n1_; have HO_273001 := n2_; have HO_280001 := n3_; have HO284 := n4_; have HO290 := n5_; have BK240 := n6_; have BK241 := n7_; have BK260 := n8_; have BK266 := n9_; have BK272 := n10_; have BK279 := n11_; have HB := n12_; clear n0_ n1_ n2_ n3_ n4_ n5_ n6_ n7_ n8_ n9_ n10_ n11_ n12_; (try clear hb); (try clear hb2); (try clear hk); (try clear hi)))
           go_meet
           case rel => exact ⟨_, ((t278 != t259)), (by first | rfl | (simp; done) | (simp [*]; done)), H', ⟨by have := HJ24.out; first | omega | exact Nat.le_refl _⟩, ⟨rq_ (Kd.R_mono HO_261001.out (fun _ hk => ⟨hk.1, ⟨hk.2.1, hk.2.2.1⟩⟩))⟩, ⟨rq_ (Kd.R_mono HO_267001.out (fun _ hk => ⟨hk.1, ⟨hk.2.1, hk.2.2.1⟩⟩))⟩, ⟨rq_ (Kd.R_mono HO_273001.out (fun _ hk => ⟨hk.1, ⟨hk.2.1, hk.2.2.1⟩⟩))⟩, ⟨rq_ (Kd.R_mono HO_280001.out (fun _ hk => ⟨hk.1, ⟨hk.2.1, hk.2.2.1⟩⟩))⟩, ⟨bk_ BK240.out⟩, ⟨bk_ BK241.out⟩, ⟨bk_ BK260.out⟩, ⟨bk_ BK266.out⟩, ⟨bk_ BK272.out⟩, ⟨bk_ BK279.out⟩, ⟨bq_⟩⟩
          ·replace c121 := Bool.eq_false_iff.mpr c121
           subst c121
           have H1 : (laws_FnExactBothOf.j1 kj24 t259 true a0_0 l0_1 a0_2 a1_0 l1_1 a1_2 t254 t255 t258 t273 t274 t277) = some r := by rw [if_neg (show ¬ (false = true) by decide)] at H; exact H
           clear H
           have H := H1
           clear H1
           exact (laws_FnExactBothOf.j1_no_1 (by rw [hr_.out] at H; exact H)).elim
        case rest =>
         clear HC97
         try clear c1
         try clear c2
         try clear p2
         try clear c3
         try clear c4
         try clear c5
         try clear c6
         try clear c7
         try clear c8
         try clear c9
         try clear c10
         try clear c11
         try clear c12
         try clear c13
         try clear c14
         try clear c16
         try clear c23
         try clear c29
         try clear c30
         try clear c45
         try clear c49
         try clear c50
         try clear c51
         try clear c54
         try clear c58
         try clear c59
         try clear c60
         try clear c61
         try clear c67
         try clear c68
         try clear c69
         try clear c70
         try clear c71
         try clear c75
         try clear c76
         try clear c77
         try clear c78
         try clear c79
         try clear c80
         try clear c82
         try clear c83
         try clear c84
         try clear c85
         try clear c88
         try clear c91
         try clear c94
         try clear c106
         try clear c107
         try clear c108
         try clear c109
         try clear c110
         try clear c113
         try clear c114
         try clear c115
         try clear c116
         try clear c119
         try clear c119b0
         try clear c121
         try clear c122
         try clear c123
         try clear c124
         try clear c125
         try clear c126
         try clear c128
         try clear c129
         try clear c130
         try clear c131
         try clear hcz111_0
         try clear hcz111_1
         try clear hcz111_2
         try clear hcz117_0
         try clear hcz117_1
         try clear hcz117_2
         try clear hcz127_0
         try clear hcz127_1
         try clear hcz127_2
         try clear hcz132_0
         try clear hcz132_1
         try clear hcz132_2
         try clear hcz46_0
         try clear hcz46_1
         try clear hcz46_2
         try clear hcz52_0
         try clear hcz52_1
         try clear hcz52_2
         try clear hcz55_0
         try clear hcz55_1
         try clear hcz55_2
         try clear hcz62_0
         try clear hcz62_1
         try clear hcz62_2
         try clear hcz64_0
         try clear hcz64_1
         try clear hcz64_2
         try clear hcz72_0
         try clear hcz72_1
         try clear hcz72_2
         try clear hcz81_0
         try clear hcz81_1
         try clear hcz81_2
         try clear hcz86_0
         try clear hcz86_1
         try clear hcz86_2
         try clear hfz111_0
         try clear hfz111_1
         try clear hfz111_2
         try clear hfz117_0
         try clear hfz117_1
         try clear hfz117_2
         try clear hfz127_0
         try clear hfz127_1
         try clear hfz127_2
         try clear hfz132_0
         try clear hfz132_1
         try clear hfz132_2
         try clear hfz46_0
         try clear hfz46_1
         try clear hfz46_2
         try clear hfz52_0
         try clear hfz52_1
         try clear hfz52_2
         try clear hfz55_0
         try clear hfz55_1
         try clear hfz55_2
         try clear hfz62_0
         try clear hfz62_1
         try clear hfz62_2
         try clear hfz64_0
         try clear hfz64_1
         try clear hfz64_2
         try clear hfz72_0
         try clear hfz72_1
         try clear hfz72_2
         try clear hfz81_0
         try clear hfz81_1
         try clear hfz81_2
         try clear hfz86_0
         try clear hfz86_1
         try clear hfz86_2
         try clear p2
         obtain ⟨kq, x82_96, rfl, HA, HJ96, HO_261001, HO_267001, HO_273001, HO_280001, BK240, BK241, BK260, BK266, BK272, BK279, HB⟩ := hcut
         have hl267001_96 := (Kd.R_reads' HO_267001.out).1
         rw [hl267001_96] at HO_267001
         (try simp only [hl267001_96])
         (try simp only [hl267001_96] at BK240)
         (try simp only [hl267001_96] at BK241)
         (try simp only [hl267001_96] at BK260)
         (try simp only [hl267001_96] at BK266)
         (try simp only [hl267001_96] at BK272)
         (try simp only [hl267001_96] at BK279)
         (try simp only [hl267001_96] at HO_261001)
         (try simp only [hl267001_96] at HO_273001)
         (try simp only [hl267001_96] at HO_280001)
         have hl273001_96 := (Kd.R_reads' HO_273001.out).1
         rw [hl273001_96] at HO_273001
         (try simp only [hl273001_96])
         (try simp only [hl273001_96] at BK240)
         (try simp only [hl273001_96] at BK241)
         (try simp only [hl273001_96] at BK260)
         (try simp only [hl273001_96] at BK266)
         (try simp only [hl273001_96] at BK272)
         (try simp only [hl273001_96] at BK279)
         (try simp only [hl273001_96] at HO_261001)
         (try simp only [hl273001_96] at HO_267001)
         (try simp only [hl273001_96] at HO_280001)
         cases kq with
         | zero => exact absurd HA.out (by simp [laws_FnExactBothOf.j1])
         | succ kj96 =>
          have H := HA.out
          clear HA
          simp only [laws_FnExactBothOf.j1] at H
          by_cases c134 : x82_96 = true
          ·subst c134
           have H1 : (some false) = some r := by rw [if_pos rfl] at H; exact H
           clear H
           have H := H1
           clear H1
           exact absurd (Option.some.inj H).symm (by rw [hr_.out]; simp)
          ·replace c134 := Bool.eq_false_iff.mpr c134
           subst c134
           have H1 : ((laws_markDiagram.f kj96 t273 t274 t277 1).bind fun bt298 => ((laws_heldDiagram.f kj96 t273 bt298.2 t277 1).bind fun t300 => (if t300 < 0 then (some false) else (if t300 = bt298.1 then ((laws_toDiagram.f kj96 a0_0 l0_1 a0_2).bind fun bt301 => ((laws_toDiagram.f kj96 a1_0 l1_1 a1_2).bind fun bt306 => ((impl_BothOf.f kj96 bt301.1 bt301.2.1 bt301.2.2 bt306.1 bt306.2.1 bt306.2.2).bind fun bt311 => ((laws_eqDiagram.f kj96 bt311.1 bt311.2.1 bt311.2.2.1 t254 t255 t258).bind fun t318 => (if t318 = true then (laws_FnExactBothOf.j2 kj96 bt298.1 (bt311.2.2.2 != t259) t273 bt298.2 t277) else (laws_FnExactBothOf.j2 kj96 bt298.1 true t273 bt298.2 t277)))))) else (some false))))) = some r := by rw [if_neg (show ¬ (false = true) by decide)] at H; exact H
           clear H
           have H := H1
           clear H1
           replace H := Option.bind_eq_some_iff.mp H
           obtain ⟨⟨t298, t299⟩, A1350, H⟩ := H
           replace H : ((laws_heldDiagram.f kj96 t273 t299 t277 1).bind fun t300 => (if t300 < 0 then (some false) else (if t300 = t298 then ((laws_toDiagram.f kj96 a0_0 l0_1 a0_2).bind fun bt301 => ((laws_toDiagram.f kj96 a1_0 l1_1 a1_2).bind fun bt306 => ((impl_BothOf.f kj96 bt301.1 bt301.2.1 bt301.2.2 bt306.1 bt306.2.1 bt306.2.2).bind fun bt311 => ((laws_eqDiagram.f kj96 bt311.1 bt311.2.1 bt311.2.2.1 t254 t255 t258).bind fun t318 => (if t318 = true then (laws_FnExactBothOf.j2 kj96 t298 (bt311.2.2.2 != t259) t273 t299 t277) else (laws_FnExactBothOf.j2 kj96 t298 true t273 t299 t277)))))) else (some false)))) = some r := H
           have A135 := Aside0.mk A1350
           clear A1350
           replace H := Option.bind_eq_some_iff.mp H
           obtain ⟨t300, A1360, H⟩ := H
           replace H : (if t300 < 0 then (some false) else (if t300 = t298 then ((laws_toDiagram.f kj96 a0_0 l0_1 a0_2).bind fun bt301 => ((laws_toDiagram.f kj96 a1_0 l1_1 a1_2).bind fun bt306 => ((impl_BothOf.f kj96 bt301.1 bt301.2.1 bt301.2.2 bt306.1 bt306.2.1 bt306.2.2).bind fun bt311 => ((laws_eqDiagram.f kj96 bt311.1 bt311.2.1 bt311.2.2.1 t254 t255 t258).bind fun t318 => (if t318 = true then (laws_FnExactBothOf.j2 kj96 t298 (bt311.2.2.2 != t259) t273 t299 t277) else (laws_FnExactBothOf.j2 kj96 t298 true t273 t299 t277)))))) else (some false))) = some r := H
           have A136 := Aside0.mk A1360
           clear A1360
           by_cases c137 : t300 < 0
           ·rw [if_pos c137] at H
            have c137b0 : decide (t300 < 0) = true := decide_eq_true c137
            clear c137
            exact absurd (Option.some.inj H).symm (by rw [hr_.out]; simp)
           ·rw [if_neg c137] at H
            have c137b0 : decide (t300 < 0) = false := decide_eq_false c137
            clear c137
            by_cases c138 : t300 = t298
            ·rw [if_pos c138] at H
             have c138b0 : (t300 == t298) = true := beq_iff_eq.mpr c138
             have c138b1 : (t300 != t298) = false := bne_eq_false_iff_eq.mpr c138
             clear c138
             replace H := Option.bind_eq_some_iff.mp H
             obtain ⟨⟨t301, t302, t305⟩, A1390, H⟩ := H
             replace H : ((laws_toDiagram.f kj96 a1_0 l1_1 a1_2).bind fun bt306 => ((impl_BothOf.f kj96 t301 t302 t305 bt306.1 bt306.2.1 bt306.2.2).bind fun bt311 => ((laws_eqDiagram.f kj96 bt311.1 bt311.2.1 bt311.2.2.1 t254 t255 t258).bind fun t318 => (if t318 = true then (laws_FnExactBothOf.j2 kj96 t298 (bt311.2.2.2 != t259) t273 t299 t277) else (laws_FnExactBothOf.j2 kj96 t298 true t273 t299 t277))))) = some r := H
             have A139 := Aside0.mk A1390
             clear A1390
             replace H := Option.bind_eq_some_iff.mp H
             obtain ⟨⟨t306, t307, t310⟩, A1400, H⟩ := H
             replace H : ((impl_BothOf.f kj96 t301 t302 t305 t306 t307 t310).bind fun bt311 => ((laws_eqDiagram.f kj96 bt311.1 bt311.2.1 bt311.2.2.1 t254 t255 t258).bind fun t318 => (if t318 = true then (laws_FnExactBothOf.j2 kj96 t298 (bt311.2.2.2 != t259) t273 t299 t277) else (laws_FnExactBothOf.j2 kj96 t298 true t273 t299 t277)))) = some r := H
             have A140 := Aside0.mk A1400
             clear A1400
             replace H := Option.bind_eq_some_iff.mp H
             obtain ⟨⟨t311, t312, t315, t316⟩, A1410, H⟩ := H
             replace H : ((laws_eqDiagram.f kj96 t311 t312 t315 t254 t255 t258).bind fun t318 => (if t318 = true then (laws_FnExactBothOf.j2 kj96 t298 (t316 != t259) t273 t299 t277) else (laws_FnExactBothOf.j2 kj96 t298 true t273 t299 t277))) = some r := H
             have A141 := Aside0.mk A1410
             clear A1410
             have HC142 := Aside0.mk H
             clear H
             have hnb143 := NB279_240.out
             have hnc143 := NB240_279.out
             have hnb144 := NB279_241.out
             have hnc144 := NB241_279.out
             have hnb145 := NB279_260.out
             have hnc145 := NB260_279.out
             have hnb146 := NB279_266.out
             have hnc146 := NB266_279.out
             have hnb147 := NB279_272.out
             have hnc147 := NB272_279.out
             have hcz148_0 := cq_ BK279.out 0 (.int .i64 t273)
             have hcz148_1 := cq_ BK279.out 1 (.slice Ao73 t274.length co73)
             have hcz148_2 := cq_ BK279.out 2 (.int .i64 t277)
             have hfz148_0 := blk_frozen BK279.out 0
             have hfz148_1 := blk_frozen BK279.out 1
             have hfz148_2 := blk_frozen BK279.out 2
             try go_wp2_with (first | ((with_reducible refine gate_callee (f := 23) rfl ?_); refine goesL_ (some 85) rfl rfl Try.func23 (by kernel_rfl) rfl #[.agg #[.int .i64 t273, .slice Ao73 t274.length co73, .int .i64 t277], .int .i64 1] rfl (by (try simp only [List.map_toArray, List.map_cons, List.map_nil]); first | done | rfl | (simp only [List.length_drop, List.length_take]; rfl)) ?_; (with_reducible refine (laws_markDiagram.calls kj96 t273 (fun k_ => some k_ = (.slice Ao73 t274.length co73 : Value).ownBlock) (.slice Ao73 t274.length co73) t274 t277 1 t298 t299 w _ ?side1 ?side2 A135.out).mono ?_); (case side1 => repeat (first | (with_reducible first | exact HB.out | apply below_alloc | apply pw_below_drewN | apply below_drew1 | refine below_set ?_ GE240.out | refine below_set ?_ GE241.out | refine below_set ?_ GE260.out | refine below_set ?_ GE266.out | refine below_set ?_ GE272.out | refine below_set ?_ GE279.out) | exact HB.out)); (case side2 => exact Kd.R_tight rfl HO_280001.out); rintro e w149 ⟨rfl, hy0, hb, hkp⟩; refine ⟨_, rfl, ?_⟩; have n0_ := Aside0.mk (Kd.R_mono (ok' := fun k_ => some k_ ≠ (.slice Ao53 t294.length co53 : Value).ownBlock ∧ some k_ ≠ (.slice Ao63 t296.length co63 : Value).ownBlock ∧ some k_ ≠ (.slice Ao73 t274.length co73 : Value).ownBlock) (Kd.R_keptB (HO_261001.out) hkp (fun k_ hk_ hs_ => (hk_.2.2) hs_)) (fun k_ hk_ => ⟨hk_.1.1, hk_.1.2.1, hk_.1.2.2⟩)); have n1_ := Aside0.mk (Kd.R_mono (ok' := fun k_ => some k_ ≠ (.slice Ao42 t255.length co42 : Value).ownBlock ∧ some k_ ≠ (.slice Ao63 t296.length co63 : Value).ownBlock ∧ some k_ ≠ (.slice Ao73 t274.length co73 : Value).ownBlock) (Kd.R_keptB (HO_267001.out) hkp (fun k_ hk_ hs_ => (hk_.2.2) hs_)) (fun k_ hk_ => ⟨hk_.1.1, hk_.1.2.1, hk_.1.2.2⟩)); have n2_ := Aside0.mk (Kd.R_mono (ok' := fun k_ => some k_ ≠ (.slice Ao42 t255.length co42 : Value).ownBlock ∧ some k_ ≠ (.slice Ao53 t294.length co53 : Value).ownBlock ∧ some k_ ≠ (.slice Ao73 t274.length co73 : Value).ownBlock) (Kd.R_keptB (HO_273001.out) hkp (fun k_ hk_ hs_ => (hk_.2.2) hs_)) (fun k_ hk_ => ⟨hk_.1.1, hk_.1.2.1, hk_.1.2.2⟩)); have n3_ := Aside0.mk (Kd.R_reok rfl hy0 (fun k_ e_ => HO_280001.out.1 k_ e_)); have n4_ := Aside0.mk (blk_kept (bk_ BK240.out) hkp (fun hs_ => (fun e_ => (Kd.R_ne HO_280001.out BK240.out (by decide)) e_) hs_)); have n5_ := Aside0.mk (blk_kept (bk_ BK241.out) hkp (fun hs_ => (fun e_ => (Kd.R_ne HO_280001.out BK241.out (by decide)) e_) hs_)); have n6_ := Aside0.mk (blk_kept (bk_ BK260.out) hkp (fun hs_ => (fun e_ => (Kd.R_ne HO_280001.out BK260.out (by decide)) e_) hs_)); have n7_ := Aside0.mk (blk_kept (bk_ BK266.out) hkp (fun hs_ => (fun e_ => (Kd.R_ne HO_280001.out BK266.out (by decide)) e_) hs_)); have n8_ := Aside0.mk (blk_kept (bk_ BK272.out) hkp (fun hs_ => (fun e_ => (Kd.R_ne HO_280001.out BK272.out (by decide)) e_) hs_)); have n9_ := Aside0.mk (blk_kept (bk_ BK279.out) hkp (fun hs_ => (fun e_ => (Kd.R_ne HO_280001.out BK279.out (by decide)) e_) hs_)); have n10_ := Aside0.mk (hb); clear HO_261001; clear HO_267001; clear HO_273001; clear HO_280001; clear BK240; clear BK241; clear BK260; clear BK266; clear BK272; clear BK279; clear HB; have HO_261001 := n0_; have HO_267001 := n1_; have HO_273001 := n2_; have HO_280001 := n3_; have BK240 := n4_; have BK241 := n5_; have BK260 := n6_; have BK266 := n7_; have BK272 := n8_; have BK279 := n9_; have HB := n10_; clear n0_ n1_ n2_ n3_ n4_ n5_ n6_ n7_ n8_ n9_ n10_; (try clear hb); (try clear hkp); (try clear hy0); have hcz150_0 := cq_ BK279.out 0 (.int .i64 t273); have hcz150_1 := cq_ BK279.out 1 (.slice Ao73 t274.length co73); have hcz150_2 := cq_ BK279.out 2 (.int .i64 t277); have hfz150_0 := blk_frozen BK279.out 0; have hfz150_1 := blk_frozen BK279.out 1; have hfz150_2 := blk_frozen BK279.out 2) | ((with_reducible refine gate_callee (f := 28) rfl ?_); refine goesL_ (some 88) rfl rfl Try.func28 (by kernel_rfl) rfl #[.agg #[.int .i64 t273, .slice Ao73 t299.length co73, .int .i64 t277], .int .i64 1] rfl (by (try simp only [List.map_toArray, List.map_cons, List.map_nil]); first | done | (rw [show t299.length = t274.length from (Kd.R_reads' HO_280001.out).1.symm] <;> rfl) | rfl | (simp only [List.length_drop, List.length_take]; rfl)) ?_; (with_reducible refine (laws_heldDiagram.calls kj96 t273 _ _ t299 t277 1 t300 _ ?side1 ?side2 A136.out).mono ?_); (case side1 => repeat (first | exact (Kd.R_reads' HO_280001.out).2.2 | (with_reducible refine Kd.C_alloc ?_ _) | (with_reducible refine Kd.C_drewN ?_ _) | (with_reducible refine Kd.C_drew ?_))); (case side2 => rw [show t299.length = t274.length from (Kd.R_reads' HO_280001.out).1.symm]; exact (Kd.R_reads' HO_280001.out).2.1); rintro e w151 ⟨rfl, hb⟩; refine ⟨_, rfl, ?_⟩; have n0_ := Aside0.mk (Kd.R_below (rq_ HO_261001.out) hb); have n1_ := Aside0.mk (Kd.R_below (rq_ HO_267001.out) hb); have n2_ := Aside0.mk (Kd.R_below (rq_ HO_273001.out) hb); have n3_ := Aside0.mk (Kd.R_below (rq_ HO_280001.out) hb); have n4_ := Aside0.mk (blk_below (bk_ BK240.out) hb); have n5_ := Aside0.mk (blk_below (bk_ BK241.out) hb); have n6_ := Aside0.mk (blk_below (bk_ BK260.out) hb); have n7_ := Aside0.mk (blk_below (bk_ BK266.out) hb); have n8_ := Aside0.mk (blk_below (bk_ BK272.out) hb); have n9_ := Aside0.mk (blk_below (bk_ BK279.out) hb); have n10_ := Aside0.mk (below_step (bq_) hb); clear HO_261001; clear HO_267001; clear HO_273001; clear HO_280001; clear BK240; clear BK241; clear BK260; clear BK266; clear BK272; clear BK279; clear HB; have HO_261001 := n0_; have HO_267001 := n1_; have HO_273001 := n2_; have HO_280001 := n3_; have BK240 := n4_; have BK241 := n5_; have BK260 := n6_; have BK266 := n7_; have BK272 := n8_; have BK279 := n9_; have HB := n10_; clear n0_ n1_ n2_ n3_ n4_ n5_ n6_ n7_ n8_ n9_ n10_; (try clear hb); (try clear hb2); (try clear hk); (try clear hi)))
             replace HO_261001 := Aside0.mk (Kd.R_drew HO_261001.out)
             replace HO_267001 := Aside0.mk (Kd.R_drew HO_267001.out)
             replace HO_273001 := Aside0.mk (Kd.R_drew HO_273001.out)
             replace HO_280001 := Aside0.mk (Kd.R_drew HO_280001.out)
             replace BK240 := Aside0.mk (blk_drew BK240.out)
             replace BK241 := Aside0.mk (blk_drew BK241.out)
             replace BK260 := Aside0.mk (blk_drew BK260.out)
             replace BK266 := Aside0.mk (blk_drew BK266.out)
             replace BK272 := Aside0.mk (blk_drew BK272.out)
             replace BK279 := Aside0.mk (blk_drew BK279.out)
             replace HB := Aside0.mk (below_drew1 HB.out)
             refine start_ (n := 11) (S := fun w' => w'.cell? ⟨gb240, 0, none⟩ = some (.int .i64 a0_0) ∧ w'.cell? ⟨gb240, 1, none⟩ = some (.slice A0_1 l0_1.length c0_1) ∧ w'.cell? ⟨gb240, 2, none⟩ = some (.int .i64 a0_2) ∧ w'.cell? ⟨gb241, 0, none⟩ = some (.int .i64 a1_0) ∧ w'.cell? ⟨gb241, 1, none⟩ = some (.slice A1_1 l1_1.length c1_1) ∧ w'.cell? ⟨gb241, 2, none⟩ = some (.int .i64 a1_2)) (ds := []) #[false, false, false, false, false, false, false, false, false, false, false] (by kernel_rfl) rfl rfl ⟨(blk_cell BK240.out 0).trans rfl, (blk_cell BK240.out 1).trans rfl, (blk_cell BK240.out 2).trans rfl, (blk_cell BK241.out 0).trans rfl, (blk_cell BK241.out 1).trans rfl, (blk_cell BK241.out 2).trans rfl⟩ (fun hHeld => ?_); refine with_tabW laws_FnExactBothOf.tab31 laws_FnExactBothOf.bits31 (fun HT_ HW_ => ?_)
             generalize w151.drew = w152 at HO_261001 HO_267001 HO_273001 HO_280001 BK240 BK241 BK260 BK266 BK272 BK279 HB hHeld ⊢
             refine take_ (i := 0) (N := some 95) (v := ?_) (a' := ?_) #[true, false, false, false, false, false, false, false, false, false, false] rfl rfl (take_ofW HT_.out HW_.out (by kernel_rfl)) (fun _ _ _ h => h) (Or.inl ⟨by rfl, ?_⟩) hHeld ?_ ?_
             rotate_left
             ·rintro w' ⟨s0, s1, s2, s3, s4, s5⟩
              go_simp
              with_reducible rfl
             rotate_left
             ·simp only [Act.put, List.setIfInBounds_toArray, List.set_cons_zero, List.set_cons_succ, i64_w, i32_w]
              rfl
             refine take_ (i := 2) (N := some 97) (v := ?_) (a' := ?_) #[true, false, true, false, false, false, false, false, false, false, false] rfl rfl (take_ofW HT_.out HW_.out (by kernel_rfl)) (fun _ _ _ h => h) (Or.inl ⟨by rfl, ?_⟩) hHeld ?_ ?_
             rotate_left
             ·rintro w' ⟨s0, s1, s2, s3, s4, s5⟩
              go_simp
              with_reducible rfl
             rotate_left
             ·simp only [Act.put, List.setIfInBounds_toArray, List.set_cons_zero, List.set_cons_succ, i64_w, i32_w]
              rfl
             refine join_ (σ := Value × Value × Value × Nat) 2 #[true, true, true, true, true, true, true, true, true, false, false] (fun s_ => [(96, .agg #[.int .i64 t301, s_.1, .int .i64 t305]), (98, .agg #[.int .i64 t306, s_.2.1, .int .i64 t310]), (99, .tuple #[.agg #[.int .i64 t311, s_.2.2.1, .int .i64 t315], .bool t316]), (15, .pointer (some ⟨s_.2.2.2, 0, none⟩)), (94, .tuple #[.agg #[.int .i64 t311, s_.2.2.1, .int .i64 t315], .bool t316]), (100, .agg #[.int .i64 t311, s_.2.2.1, .int .i64 t315]), (101, .bool t316)]) (fun s_ w' => (w'.cell? ⟨gb240, 0, none⟩ = some (.int .i64 a0_0) ∧ w'.cell? ⟨gb240, 1, none⟩ = some (.slice A0_1 l0_1.length c0_1) ∧ w'.cell? ⟨gb240, 2, none⟩ = some (.int .i64 a0_2) ∧ w'.cell? ⟨gb241, 0, none⟩ = some (.int .i64 a1_0) ∧ w'.cell? ⟨gb241, 1, none⟩ = some (.slice A1_1 l1_1.length c1_1) ∧ w'.cell? ⟨gb241, 2, none⟩ = some (.int .i64 a1_2)) ∧ (Kd.R k75 75 w' w.heap.size (fun k_ => some k_ ≠ (s_.2.1 : Value).ownBlock ∧ some k_ ≠ (s_.2.2.1 : Value).ownBlock ∧ some k_ ≠ (.slice Ao42 t255.length co42 : Value).ownBlock ∧ some k_ ≠ (.slice Ao53 t294.length co53 : Value).ownBlock ∧ some k_ ≠ (.slice Ao63 t296.length co63 : Value).ownBlock ∧ some k_ ≠ (.slice Ao73 t274.length co73 : Value).ownBlock) s_.1 t302) ∧ (Kd.R k75 75 w' w.heap.size (fun k_ => some k_ ≠ (s_.1 : Value).ownBlock ∧ some k_ ≠ (s_.2.2.1 : Value).ownBlock ∧ some k_ ≠ (.slice Ao42 t255.length co42 : Value).ownBlock ∧ some k_ ≠ (.slice Ao53 t294.length co53 : Value).ownBlock ∧ some k_ ≠ (.slice Ao63 t296.length co63 : Value).ownBlock ∧ some k_ ≠ (.slice Ao73 t274.length co73 : Value).ownBlock) s_.2.1 t307) ∧ (Kd.R k75 75 w' w.heap.size (fun k_ => some k_ ≠ (s_.1 : Value).ownBlock ∧ some k_ ≠ (s_.2.1 : Value).ownBlock ∧ some k_ ≠ (.slice Ao42 t255.length co42 : Value).ownBlock ∧ some k_ ≠ (.slice Ao53 t294.length co53 : Value).ownBlock ∧ some k_ ≠ (.slice Ao63 t296.length co63 : Value).ownBlock ∧ some k_ ≠ (.slice Ao73 t274.length co73 : Value).ownBlock) s_.2.2.1 t312) ∧ (Kd.R k75 75 w' w.heap.size (fun k_ => some k_ ≠ (s_.1 : Value).ownBlock ∧ some k_ ≠ (s_.2.1 : Value).ownBlock ∧ some k_ ≠ (s_.2.2.1 : Value).ownBlock ∧ some k_ ≠ (.slice Ao53 t294.length co53 : Value).ownBlock ∧ some k_ ≠ (.slice Ao63 t296.length co63 : Value).ownBlock ∧ some k_ ≠ (.slice Ao73 t274.length co73 : Value).ownBlock) (.slice Ao42 t255.length co42) t255) ∧ (Kd.R k75 75 w' w.heap.size (fun k_ => some k_ ≠ (s_.1 : Value).ownBlock ∧ some k_ ≠ (s_.2.1 : Value).ownBlock ∧ some k_ ≠ (s_.2.2.1 : Value).ownBlock ∧ some k_ ≠ (.slice Ao42 t255.length co42 : Value).ownBlock ∧ some k_ ≠ (.slice Ao63 t296.length co63 : Value).ownBlock ∧ some k_ ≠ (.slice Ao73 t274.length co73 : Value).ownBlock) (.slice Ao53 t294.length co53) t294) ∧ (Kd.R k75 75 w' w.heap.size (fun k_ => some k_ ≠ (s_.1 : Value).ownBlock ∧ some k_ ≠ (s_.2.1 : Value).ownBlock ∧ some k_ ≠ (s_.2.2.1 : Value).ownBlock ∧ some k_ ≠ (.slice Ao42 t255.length co42 : Value).ownBlock ∧ some k_ ≠ (.slice Ao53 t294.length co53 : Value).ownBlock ∧ some k_ ≠ (.slice Ao73 t274.length co73 : Value).ownBlock) (.slice Ao63 t296.length co63) t296) ∧ (Kd.R k75 75 w' w.heap.size (fun k_ => some k_ ≠ (s_.1 : Value).ownBlock ∧ some k_ ≠ (s_.2.1 : Value).ownBlock ∧ some k_ ≠ (s_.2.2.1 : Value).ownBlock ∧ some k_ ≠ (.slice Ao42 t255.length co42 : Value).ownBlock ∧ some k_ ≠ (.slice Ao53 t294.length co53 : Value).ownBlock ∧ some k_ ≠ (.slice Ao63 t296.length co63 : Value).ownBlock) (.slice Ao73 t274.length co73) t299) ∧ (w'.heap[gb240]? = some (.cells #[.int .i64 a0_0, .slice A0_1 l0_1.length c0_1, .int .i64 a0_2] 24 (0, 0))) ∧ (w'.heap[gb241]? = some (.cells #[.int .i64 a1_0, .slice A1_1 l1_1.length c1_1, .int .i64 a1_2] 24 (0, 0))) ∧ (w'.heap[gb260]? = some (.cells #[.int .i64 t254, .slice Ao42 t255.length co42, .int .i64 t258] 30 (0, 0))) ∧ (w'.heap[gb266]? = some (.cells #[.int .i64 t261, .slice Ao53 t294.length co53, .int .i64 t265] 30 (0, 0))) ∧ (w'.heap[gb272]? = some (.cells #[.int .i64 t267, .slice Ao63 t296.length co63, .int .i64 t271] 30 (0, 0))) ∧ (w'.heap[gb279]? = some (.cells #[.int .i64 t273, .slice Ao73 t274.length co73, .int .i64 t277] 30 (0, 0))) ∧ (w'.heap[s_.2.2.2]? = some (.cells #[.int .i64 0, .slice none 0 0, .int .i64 0] 30 (0, 0))) ∧ (w.heap.size ≤ s_.2.2.2) ∧ (w.heap.size ≤ s_.2.2.2) ∧ (gb240 ≠ s_.2.2.2) ∧ (s_.2.2.2 ≠ gb240) ∧ (gb241 ≠ s_.2.2.2) ∧ (s_.2.2.2 ≠ gb241) ∧ (gb260 ≠ s_.2.2.2) ∧ (s_.2.2.2 ≠ gb260) ∧ (gb266 ≠ s_.2.2.2) ∧ (s_.2.2.2 ≠ gb266) ∧ (gb272 ≠ s_.2.2.2) ∧ (s_.2.2.2 ≠ gb272) ∧ (gb279 ≠ s_.2.2.2) ∧ (s_.2.2.2 ≠ gb279) ∧ (Below w.heap.size w w')) ?_ ?_
             rotate_left
             ·intro hCont
              refine two_ (i := 1) (j := 8) (Ni := some 96) (Nj := some 15) #[true, true, true, false, false, false, false, false, false, false, false] #[true, false, true, false, false, false, false, false, true, false, false] rfl rfl rfl rfl (two_of HT_.out (by kernel_rfl)) (by decide) (by decide) (fun K hK => ?_) (fun K hK => ?_)
              ·skip
               refine goes_ Try.func14 (by kernel_rfl) rfl #[.agg #[.int .i64 a0_0, .slice A0_1 l0_1.length c0_1, .int .i64 a0_2]] (by rfl) rfl rfl (by (try simp only [List.map_toArray, List.map_cons, List.map_nil]); first | done | rfl | (simp only [List.length_drop, List.length_take]; rfl)) ?_
               with_reducible refine (laws_toDiagram.calls kj96 a0_0 _ _ l0_1 a0_2 t301 t302 t305 _ ?side1 ?side2 A139.out).mono ?_
               (case side1 => repeat (first | exact (Kd.C_below HR0_1.out HB.out) | (with_reducible refine Kd.C_alloc ?_ _) | (with_reducible refine Kd.C_drewN ?_ _) | (with_reducible refine Kd.C_drew ?_)))
               (case side2 => exact HC0_1.out)
               rintro e w153 ⟨v303, rfl, ho0, hb⟩
               refine ⟨_, rfl, ?_⟩
               have n0_ := Aside0.mk (Kd.R_elder' (rq_ HO_261001.out) (Kd.R_base ho0) hb)
               have n1_ := Aside0.mk (Kd.R_elder' (rq_ HO_267001.out) (Kd.R_base ho0) hb)
               have n2_ := Aside0.mk (Kd.R_elder' (rq_ HO_273001.out) (Kd.R_base ho0) hb)
               have n3_ := Aside0.mk (Kd.R_elder' (rq_ HO_280001.out) (Kd.R_base ho0) hb)
               have n4_ := Aside0.mk (Kd.R_lower (Kd.R_new' (Kd.R_new' (Kd.R_new' (Kd.R_new' ho0 (Kd.R_lt (rq_ HO_261001.out))) (Kd.R_lt (rq_ HO_267001.out))) (Kd.R_lt (rq_ HO_273001.out))) (Kd.R_lt (rq_ HO_280001.out))) (below_size (bq_)))
               have n5_ := Aside0.mk (blk_below (bk_ BK240.out) hb)
               have n6_ := Aside0.mk (blk_below (bk_ BK241.out) hb)
               have n7_ := Aside0.mk (blk_below (bk_ BK260.out) hb)
               have n8_ := Aside0.mk (blk_below (bk_ BK266.out) hb)
               have n9_ := Aside0.mk (blk_below (bk_ BK272.out) hb)
               have n10_ := Aside0.mk (blk_below (bk_ BK279.out) hb)
               have n11_ := Aside0.mk (below_step (bq_) hb)
               clear HO_261001 HO_267001 HO_273001 HO_280001 BK240 BK241 BK260 BK266 BK272 BK279 HB
               have HO_261001 := n0_
               have HO_267001 := n1_
               have HO_273001 := n2_
               have HO_280001 := n3_
               have HO304 := n4_
               have BK240 := n5_
               have BK241 := n6_
               have BK260 := n7_
               have BK266 := n8_
               have BK272 := n9_
               have BK279 := n10_
               have HB := n11_
               clear n0_ n1_ n2_ n3_ n4_ n5_ n6_ n7_ n8_ n9_ n10_ n11_
               (try clear hb)
               (try clear hb2)
               (try clear hk)
               (try clear hi)
               (try clear ho0)
               refine hK.out _ _ ⟨(blk_cell BK240.out 0).trans rfl, (blk_cell BK240.out 1).trans rfl, (blk_cell BK240.out 2).trans rfl, (blk_cell BK241.out 0).trans rfl, (blk_cell BK241.out 1).trans rfl, (blk_cell BK241.out 2).trans rfl⟩ (fun hHeld => ?_)
               clear hK K
               refine norm_ (a' := ?_) ?_ ?_
               rotate_left
               ·show Act.put _ (some 96) _ = _
                simp only [Act.put, List.setIfInBounds_toArray, List.set_cons_zero, List.set_cons_succ, i64_w, i32_w]
                rfl
               refine two_ (i := 3) (j := 8) (Ni := some 98) (Nj := some 15) #[true, true, true, true, false, false, false, false, false, false, false] #[true, true, true, false, false, false, false, false, true, false, false] rfl rfl rfl rfl (two_of HT_.out (by kernel_rfl)) (by decide) (by decide) (fun K hK => ?_) (fun K hK => ?_)
               ·skip
                refine goes_ Try.func14 (by kernel_rfl) rfl #[.agg #[.int .i64 a1_0, .slice A1_1 l1_1.length c1_1, .int .i64 a1_2]] (by rfl) rfl rfl (by (try simp only [List.map_toArray, List.map_cons, List.map_nil]); first | done | rfl | (simp only [List.length_drop, List.length_take]; rfl)) ?_
                with_reducible refine (laws_toDiagram.calls kj96 a1_0 _ _ l1_1 a1_2 t306 t307 t310 _ ?side1 ?side2 A140.out).mono ?_
                (case side1 => repeat (first | exact (Kd.C_below HR1_1.out HB.out) | (with_reducible refine Kd.C_alloc ?_ _) | (with_reducible refine Kd.C_drewN ?_ _) | (with_reducible refine Kd.C_drew ?_)))
                (case side2 => exact HC1_1.out)
                rintro e w154 ⟨v308, rfl, ho0, hb⟩
                refine ⟨_, rfl, ?_⟩
                have n0_ := Aside0.mk (Kd.R_elder' (rq_ HO_261001.out) (Kd.R_base ho0) hb)
                have n1_ := Aside0.mk (Kd.R_elder' (rq_ HO_267001.out) (Kd.R_base ho0) hb)
                have n2_ := Aside0.mk (Kd.R_elder' (rq_ HO_273001.out) (Kd.R_base ho0) hb)
                have n3_ := Aside0.mk (Kd.R_elder' (rq_ HO_280001.out) (Kd.R_base ho0) hb)
                have n4_ := Aside0.mk (Kd.R_elder' (rq_ HO304.out) (Kd.R_base ho0) hb)
                have n5_ := Aside0.mk (Kd.R_lower (Kd.R_new' (Kd.R_new' (Kd.R_new' (Kd.R_new' (Kd.R_new' ho0 (Kd.R_lt (rq_ HO_261001.out))) (Kd.R_lt (rq_ HO_267001.out))) (Kd.R_lt (rq_ HO_273001.out))) (Kd.R_lt (rq_ HO_280001.out))) (Kd.R_lt (rq_ HO304.out))) (below_size (bq_)))
                have n6_ := Aside0.mk (blk_below (bk_ BK240.out) hb)
                have n7_ := Aside0.mk (blk_below (bk_ BK241.out) hb)
                have n8_ := Aside0.mk (blk_below (bk_ BK260.out) hb)
                have n9_ := Aside0.mk (blk_below (bk_ BK266.out) hb)
                have n10_ := Aside0.mk (blk_below (bk_ BK272.out) hb)
                have n11_ := Aside0.mk (blk_below (bk_ BK279.out) hb)
                have n12_ := Aside0.mk (below_step (bq_) hb)
                clear HO_261001 HO_267001 HO_273001 HO_280001 HO304 BK240 BK241 BK260 BK266 BK272 BK279 HB
                have HO_261001 := n0_
                have HO_267001 := n1_
                have HO_273001 := n2_
                have HO_280001 := n3_
                have HO304 := n4_
                have HO309 := n5_
                have BK240 := n6_
                have BK241 := n7_
                have BK260 := n8_
                have BK266 := n9_
                have BK272 := n10_
                have BK279 := n11_
                have HB := n12_
                clear n0_ n1_ n2_ n3_ n4_ n5_ n6_ n7_ n8_ n9_ n10_ n11_ n12_
                (try clear hb)
                (try clear hb2)
                (try clear hk)
                (try clear hi)
                (try clear ho0)
                obtain ⟨Ao155, co155, eo155⟩ := Kd.R_slice HO304.out
                (first | subst eo155 | (injection eo155 with f1_ f2_ f3_; have f4_ := f1_.symm; have f5_ := f3_.symm; clear f1_ f2_ f3_; subst f4_; subst f5_))
                obtain ⟨Ao156, co156, eo156⟩ := Kd.R_slice HO309.out
                (first | subst eo156 | (injection eo156 with f1_ f2_ f3_; have f4_ := f1_.symm; have f5_ := f3_.symm; clear f1_ f2_ f3_; subst f4_; subst f5_))
                refine hK.out _ _ ⟨(blk_cell BK240.out 0).trans rfl, (blk_cell BK240.out 1).trans rfl, (blk_cell BK240.out 2).trans rfl, (blk_cell BK241.out 0).trans rfl, (blk_cell BK241.out 1).trans rfl, (blk_cell BK241.out 2).trans rfl⟩ (fun hHeld => ?_)
                clear hK K
                refine norm_ (a' := ?_) ?_ ?_
                rotate_left
                ·show Act.put _ (some 98) _ = _
                 simp only [Act.put, List.setIfInBounds_toArray, List.set_cons_zero, List.set_cons_succ, i64_w, i32_w]
                 rfl
                refine two_ (i := 4) (j := 8) (Ni := some 99) (Nj := some 15) #[true, true, true, true, true, false, false, false, false, false, false] #[true, true, true, true, false, false, false, false, true, false, false] rfl rfl rfl rfl (two_of HT_.out (by kernel_rfl)) (by decide) (by decide) (fun K hK => ?_) (fun K hK => ?_)
                ·skip
                 refine goes_ Try.func30 (by kernel_rfl) rfl #[.agg #[.int .i64 t301, .slice Ao155 t302.length co155, .int .i64 t305], .agg #[.int .i64 t306, .slice Ao156 t307.length co156, .int .i64 t310]] (by rfl) rfl rfl (by (try simp only [List.map_toArray, List.map_cons, List.map_nil]); first | done | rfl | (simp only [List.length_drop, List.length_take]; rfl)) ?_
                 with_reducible refine (impl_BothOf.calls kj96 t301 _ _ t302 t305 t306 _ _ t307 t310 t311 t312 t315 t316 _ ?side1 ?side2 ?side3 ?side4 A141.out).mono ?_
                 (case side1 => repeat (first | exact (Kd.R_reads' HO304.out).2.2 | (with_reducible refine Kd.C_alloc ?_ _) | (with_reducible refine Kd.C_drewN ?_ _) | (with_reducible refine Kd.C_drew ?_)))
                 (case side2 => exact (Kd.R_reads' HO304.out).2.1)
                 (case side3 => repeat (first | exact (Kd.R_reads' HO309.out).2.2 | (with_reducible refine Kd.C_alloc ?_ _) | (with_reducible refine Kd.C_drewN ?_ _) | (with_reducible refine Kd.C_drew ?_)))
                 (case side4 => exact (Kd.R_reads' HO309.out).2.1)
                 rintro e w157 ⟨v313, rfl, ho0, hb⟩
                 refine ⟨_, rfl, ?_⟩
                 have n0_ := Aside0.mk (Kd.R_elder' (rq_ HO_261001.out) (Kd.R_base ho0) hb)
                 have n1_ := Aside0.mk (Kd.R_elder' (rq_ HO_267001.out) (Kd.R_base ho0) hb)
                 have n2_ := Aside0.mk (Kd.R_elder' (rq_ HO_273001.out) (Kd.R_base ho0) hb)
                 have n3_ := Aside0.mk (Kd.R_elder' (rq_ HO_280001.out) (Kd.R_base ho0) hb)
                 have n4_ := Aside0.mk (Kd.R_elder' (rq_ HO304.out) (Kd.R_base ho0) hb)
                 have n5_ := Aside0.mk (Kd.R_elder' (rq_ HO309.out) (Kd.R_base ho0) hb)
                 have n6_ := Aside0.mk (Kd.R_lower (Kd.R_new' (Kd.R_new' (Kd.R_new' (Kd.R_new' (Kd.R_new' (Kd.R_new' ho0 (Kd.R_lt (rq_ HO_261001.out))) (Kd.R_lt (rq_ HO_267001.out))) (Kd.R_lt (rq_ HO_273001.out))) (Kd.R_lt (rq_ HO_280001.out))) (Kd.R_lt (rq_ HO304.out))) (Kd.R_lt (rq_ HO309.out))) (below_size (bq_)))
                 have n7_ := Aside0.mk (blk_below (bk_ BK240.out) hb)
                 have n8_ := Aside0.mk (blk_below (bk_ BK241.out) hb)
                 have n9_ := Aside0.mk (blk_below (bk_ BK260.out) hb)
                 have n10_ := Aside0.mk (blk_below (bk_ BK266.out) hb)
                 have n11_ := Aside0.mk (blk_below (bk_ BK272.out) hb)
                 have n12_ := Aside0.mk (blk_below (bk_ BK279.out) hb)
                 have n13_ := Aside0.mk (below_step (bq_) hb)
                 clear HO_261001 HO_267001 HO_273001 HO_280001 HO304 HO309 BK240 BK241 BK260 BK266 BK272 BK279 HB
                 have HO_261001 := n0_
                 have HO_267001 := n1_
                 have HO_273001 := n2_
                 have HO_280001 := n3_
                 have HO304 := n4_
                 have HO309 := n5_
                 have HO314 := n6_
                 have BK240 := n7_
                 have BK241 := n8_
                 have BK260 := n9_
                 have BK266 := n10_
                 have BK272 := n11_
                 have BK279 := n12_
                 have HB := n13_
                 clear n0_ n1_ n2_ n3_ n4_ n5_ n6_ n7_ n8_ n9_ n10_ n11_ n12_ n13_
                 (try clear hb)
                 (try clear hb2)
                 (try clear hk)
                 (try clear hi)
                 (try clear ho0)
                 refine hK.out _ _ ⟨(blk_cell BK240.out 0).trans rfl, (blk_cell BK240.out 1).trans rfl, (blk_cell BK240.out 2).trans rfl, (blk_cell BK241.out 0).trans rfl, (blk_cell BK241.out 1).trans rfl, (blk_cell BK241.out 2).trans rfl⟩ (fun hHeld => ?_)
                 clear hK K
                 refine norm_ (a' := ?_) ?_ ?_
                 rotate_left
                 ·show Act.put _ (some 99) _ = _
                  simp only [Act.put, List.setIfInBounds_toArray, List.set_cons_zero, List.set_cons_succ, i64_w, i32_w]
                  rfl
                 refine pure_ (i := 5) (N := some 94) (v := ?_) (a' := ?_) #[true, true, true, true, true, true, false, false, false, false, false] rfl rfl (any_of HT_.out (by kernel_rfl)) (fun _ _ _ h => h) (Or.inl ⟨by rfl, ?_⟩) ?_ ?_
                 rotate_left
                 ·intro w'
                  go_simp
                  with_reducible rfl
                 rotate_left
                 ·simp only [Act.put, List.setIfInBounds_toArray, List.set_cons_zero, List.set_cons_succ, i64_w, i32_w]
                  rfl
                 refine pure_ (i := 6) (N := some 100) (v := ?_) (a' := ?_) #[true, true, true, true, true, true, true, false, false, false, false] rfl rfl (any_of HT_.out (by kernel_rfl)) (fun _ _ _ h => h) (Or.inl ⟨by rfl, ?_⟩) ?_ ?_
                 rotate_left
                 ·intro w'
                  go_simp
                  with_reducible rfl
                 rotate_left
                 ·simp only [Act.put, List.setIfInBounds_toArray, List.set_cons_zero, List.set_cons_succ, i64_w, i32_w]
                  rfl
                 refine pure_ (i := 7) (N := some 101) (v := ?_) (a' := ?_) #[true, true, true, true, true, true, true, true, false, false, false] rfl rfl (any_of HT_.out (by kernel_rfl)) (fun _ _ _ h => h) (Or.inl ⟨by rfl, ?_⟩) ?_ ?_
                 rotate_left
                 ·intro w'
                  go_simp
                  with_reducible rfl
                 rotate_left
                 ·simp only [Act.put, List.setIfInBounds_toArray, List.set_cons_zero, List.set_cons_succ, i64_w, i32_w]
                  rfl
                 refine one_ (i := 8) (N := some 15) #[true, true, true, true, true, true, true, true, true, false, false] rfl rfl (one_of HT_.out (by kernel_rfl)) (by decide) (fun K hK => ?_)
                 refine box_step ?hg (N := 15) ?hd (cs := #[.int .i64 0, .slice none 0 0, .int .i64 0]) (t := 30) ?hr ?_; (case hd => rfl); (case hg => rfl); (case hr => first | (go_simp; done) | (go_simp; rfl))
                 intro gb317 hg w158 hbox hb
                 have n0_ := Aside0.mk (Kd.R_below (rq_ HO_261001.out) hb)
                 have n1_ := Aside0.mk (Kd.R_below (rq_ HO_267001.out) hb)
                 have n2_ := Aside0.mk (Kd.R_below (rq_ HO_273001.out) hb)
                 have n3_ := Aside0.mk (Kd.R_below (rq_ HO_280001.out) hb)
                 have n4_ := Aside0.mk (Kd.R_below (rq_ HO304.out) hb)
                 have n5_ := Aside0.mk (Kd.R_below (rq_ HO309.out) hb)
                 have n6_ := Aside0.mk (Kd.R_below (rq_ HO314.out) hb)
                 have n7_ := Aside0.mk (blk_below (bk_ BK240.out) hb)
                 have n8_ := Aside0.mk (blk_below (bk_ BK241.out) hb)
                 have n9_ := Aside0.mk (blk_below (bk_ BK260.out) hb)
                 have n10_ := Aside0.mk (blk_below (bk_ BK266.out) hb)
                 have n11_ := Aside0.mk (blk_below (bk_ BK272.out) hb)
                 have n12_ := Aside0.mk (blk_below (bk_ BK279.out) hb)
                 have n13_ := Aside0.mk (below_step (bq_) hb)
                 have n14_ := Aside0.mk (hbox)
                 have n15_ := Aside0.mk ((by rw [hg]; exact (below_size (bq_)) : w.heap.size ≤ gb317))
                 have n16_ := Aside0.mk ((by rw [hg]; exact (below_size (bq_)) : w.heap.size ≤ gb317))
                 have n17_ := Aside0.mk ((by rw [hg]; exact Nat.ne_of_lt (blk_lt (bk_ BK240.out)) : gb240 ≠ gb317))
                 have n18_ := Aside0.mk ((by rw [hg]; exact Nat.ne_of_gt (blk_lt (bk_ BK240.out)) : gb317 ≠ gb240))
                 have n19_ := Aside0.mk ((by rw [hg]; exact Nat.ne_of_lt (blk_lt (bk_ BK241.out)) : gb241 ≠ gb317))
                 have n20_ := Aside0.mk ((by rw [hg]; exact Nat.ne_of_gt (blk_lt (bk_ BK241.out)) : gb317 ≠ gb241))
                 have n21_ := Aside0.mk ((by rw [hg]; exact Nat.ne_of_lt (blk_lt (bk_ BK260.out)) : gb260 ≠ gb317))
                 have n22_ := Aside0.mk ((by rw [hg]; exact Nat.ne_of_gt (blk_lt (bk_ BK260.out)) : gb317 ≠ gb260))
                 have n23_ := Aside0.mk ((by rw [hg]; exact Nat.ne_of_lt (blk_lt (bk_ BK266.out)) : gb266 ≠ gb317))
                 have n24_ := Aside0.mk ((by rw [hg]; exact Nat.ne_of_gt (blk_lt (bk_ BK266.out)) : gb317 ≠ gb266))
                 have n25_ := Aside0.mk ((by rw [hg]; exact Nat.ne_of_lt (blk_lt (bk_ BK272.out)) : gb272 ≠ gb317))
                 have n26_ := Aside0.mk ((by rw [hg]; exact Nat.ne_of_gt (blk_lt (bk_ BK272.out)) : gb317 ≠ gb272))
                 have n27_ := Aside0.mk ((by rw [hg]; exact Nat.ne_of_lt (blk_lt (bk_ BK279.out)) : gb279 ≠ gb317))
                 have n28_ := Aside0.mk ((by rw [hg]; exact Nat.ne_of_gt (blk_lt (bk_ BK279.out)) : gb317 ≠ gb279))
                 clear HO_261001 HO_267001 HO_273001 HO_280001 HO304 HO309 HO314 BK240 BK241 BK260 BK266 BK272 BK279 HB
                 have HO_261001 := n0_
                 have HO_267001 := n1_
                 have HO_273001 := n2_
                 have HO_280001 := n3_
                 have HO304 := n4_
                 have HO309 := n5_
                 have HO314 := n6_
                 have BK240 := n7_
                 have BK241 := n8_
                 have BK260 := n9_
                 have BK266 := n10_
                 have BK272 := n11_
                 have BK279 := n12_
                 have HB := n13_
                 have BK317 := n14_
                 have GW317 := n15_
                 have GE317 := n16_
                 have NB240_317 := n17_
                 have NB317_240 := n18_
                 have NB241_317 := n19_
                 have NB317_241 := n20_
                 have NB260_317 := n21_
                 have NB317_260 := n22_
                 have NB266_317 := n23_
                 have NB317_266 := n24_
                 have NB272_317 := n25_
                 have NB317_272 := n26_
                 have NB279_317 := n27_
                 have NB317_279 := n28_
                 clear n0_ n1_ n2_ n3_ n4_ n5_ n6_ n7_ n8_ n9_ n10_ n11_ n12_ n13_ n14_ n15_ n16_ n17_ n18_ n19_ n20_ n21_ n22_ n23_ n24_ n25_ n26_ n27_ n28_ hb hbox hg
                 refine hK.out _ _ ⟨(blk_cell BK240.out 0).trans rfl, (blk_cell BK240.out 1).trans rfl, (blk_cell BK240.out 2).trans rfl, (blk_cell BK241.out 0).trans rfl, (blk_cell BK241.out 1).trans rfl, (blk_cell BK241.out 2).trans rfl⟩ (fun hHeld => ?_)
                 clear hK K
                 refine norm_ (a' := ?_) ?_ ?_
                 rotate_left
                 ·show Act.put _ (some 15) _ = _
                  simp only [Act.put, List.setIfInBounds_toArray, List.set_cons_zero, List.set_cons_succ, i64_w, i32_w]
                  rfl
                 exact norm_ (by simp only [putAll, Act.put, List.setIfInBounds_toArray, List.set_cons_zero, List.set_cons_succ]) (hCont (.slice Ao155 t302.length co155, .slice Ao156 t307.length co156, v313, gb317) _ ⟨hHeld, (rq_ (Kd.R_mono HO304.out (fun _ hk => ⟨hk.1.2, ⟨hk.2, ⟨hk.1.1.1.1.1.2, ⟨hk.1.1.1.1.2, ⟨hk.1.1.1.2, hk.1.1.2⟩⟩⟩⟩⟩))), (rq_ (Kd.R_mono HO309.out (fun _ hk => ⟨hk.1.2, ⟨hk.2, ⟨hk.1.1.1.1.1.2, ⟨hk.1.1.1.1.2, ⟨hk.1.1.1.2, hk.1.1.2⟩⟩⟩⟩⟩))), (rq_ (Kd.R_mono HO314.out (fun _ hk => ⟨hk.1.2, ⟨hk.2, ⟨hk.1.1.1.1.1.2, ⟨hk.1.1.1.1.2, ⟨hk.1.1.1.2, hk.1.1.2⟩⟩⟩⟩⟩))), (rq_ (Kd.R_mono HO_261001.out (fun _ hk => ⟨hk.1.1.2, ⟨hk.1.2, ⟨hk.2, ⟨hk.1.1.1.1, ⟨hk.1.1.1.2.1, hk.1.1.1.2.2⟩⟩⟩⟩⟩))), (rq_ (Kd.R_mono HO_267001.out (fun _ hk => ⟨hk.1.1.2, ⟨hk.1.2, ⟨hk.2, ⟨hk.1.1.1.1, ⟨hk.1.1.1.2.1, hk.1.1.1.2.2⟩⟩⟩⟩⟩))), (rq_ (Kd.R_mono HO_273001.out (fun _ hk => ⟨hk.1.1.2, ⟨hk.1.2, ⟨hk.2, ⟨hk.1.1.1.1, ⟨hk.1.1.1.2.1, hk.1.1.1.2.2⟩⟩⟩⟩⟩))), (rq_ (Kd.R_mono HO_280001.out (fun _ hk => ⟨hk.1.1.2, ⟨hk.1.2, ⟨hk.2, ⟨hk.1.1.1.1, ⟨hk.1.1.1.2.1, hk.1.1.1.2.2⟩⟩⟩⟩⟩))), (bk_ BK240.out), (bk_ BK241.out), (bk_ BK260.out), (bk_ BK266.out), (bk_ BK272.out), (bk_ BK279.out), (bk_ BK317.out), GW317.out, GE317.out, NB240_317.out, NB317_240.out, NB241_317.out, NB317_241.out, NB260_317.out, NB317_260.out, NB266_317.out, NB317_266.out, NB272_317.out, NB317_272.out, NB279_317.out, NB317_279.out, (bq_)⟩)
                ·skip
                 refine box_step ?hg (N := 15) ?hd (cs := #[.int .i64 0, .slice none 0 0, .int .i64 0]) (t := 30) ?hr ?_; (case hd => rfl); (case hg => rfl); (case hr => first | (go_simp; done) | (go_simp; rfl))
                 intro gb317 hg w155 hbox hb
                 have n0_ := Aside0.mk (Kd.R_below (rq_ HO_261001.out) hb)
                 have n1_ := Aside0.mk (Kd.R_below (rq_ HO_267001.out) hb)
                 have n2_ := Aside0.mk (Kd.R_below (rq_ HO_273001.out) hb)
                 have n3_ := Aside0.mk (Kd.R_below (rq_ HO_280001.out) hb)
                 have n4_ := Aside0.mk (Kd.R_below (rq_ HO304.out) hb)
                 have n5_ := Aside0.mk (Kd.R_below (rq_ HO309.out) hb)
                 have n6_ := Aside0.mk (blk_below (bk_ BK240.out) hb)
                 have n7_ := Aside0.mk (blk_below (bk_ BK241.out) hb)
                 have n8_ := Aside0.mk (blk_below (bk_ BK260.out) hb)
                 have n9_ := Aside0.mk (blk_below (bk_ BK266.out) hb)
                 have n10_ := Aside0.mk (blk_below (bk_ BK272.out) hb)
                 have n11_ := Aside0.mk (blk_below (bk_ BK279.out) hb)
                 have n12_ := Aside0.mk (below_step (bq_) hb)
                 have n13_ := Aside0.mk (hbox)
                 have n14_ := Aside0.mk ((by rw [hg]; exact (below_size (bq_)) : w.heap.size ≤ gb317))
                 have n15_ := Aside0.mk ((by rw [hg]; exact (below_size (bq_)) : w.heap.size ≤ gb317))
                 have n16_ := Aside0.mk ((by rw [hg]; exact Nat.ne_of_lt (blk_lt (bk_ BK240.out)) : gb240 ≠ gb317))
                 have n17_ := Aside0.mk ((by rw [hg]; exact Nat.ne_of_gt (blk_lt (bk_ BK240.out)) : gb317 ≠ gb240))
                 have n18_ := Aside0.mk ((by rw [hg]; exact Nat.ne_of_lt (blk_lt (bk_ BK241.out)) : gb241 ≠ gb317))
                 have n19_ := Aside0.mk ((by rw [hg]; exact Nat.ne_of_gt (blk_lt (bk_ BK241.out)) : gb317 ≠ gb241))
                 have n20_ := Aside0.mk ((by rw [hg]; exact Nat.ne_of_lt (blk_lt (bk_ BK260.out)) : gb260 ≠ gb317))
                 have n21_ := Aside0.mk ((by rw [hg]; exact Nat.ne_of_gt (blk_lt (bk_ BK260.out)) : gb317 ≠ gb260))
                 have n22_ := Aside0.mk ((by rw [hg]; exact Nat.ne_of_lt (blk_lt (bk_ BK266.out)) : gb266 ≠ gb317))
                 have n23_ := Aside0.mk ((by rw [hg]; exact Nat.ne_of_gt (blk_lt (bk_ BK266.out)) : gb317 ≠ gb266))
                 have n24_ := Aside0.mk ((by rw [hg]; exact Nat.ne_of_lt (blk_lt (bk_ BK272.out)) : gb272 ≠ gb317))
                 have n25_ := Aside0.mk ((by rw [hg]; exact Nat.ne_of_gt (blk_lt (bk_ BK272.out)) : gb317 ≠ gb272))
                 have n26_ := Aside0.mk ((by rw [hg]; exact Nat.ne_of_lt (blk_lt (bk_ BK279.out)) : gb279 ≠ gb317))
                 have n27_ := Aside0.mk ((by rw [hg]; exact Nat.ne_of_gt (blk_lt (bk_ BK279.out)) : gb317 ≠ gb279))
                 clear HO_261001 HO_267001 HO_273001 HO_280001 HO304 HO309 BK240 BK241 BK260 BK266 BK272 BK279 HB
                 have HO_261001 := n0_
                 have HO_267001 := n1_
                 have HO_273001 := n2_
                 have HO_280001 := n3_
                 have HO304 := n4_
                 have HO309 := n5_
                 have BK240 := n6_
                 have BK241 := n7_
                 have BK260 := n8_
                 have BK266 := n9_
                 have BK272 := n10_
                 have BK279 := n11_
                 have HB := n12_
                 have BK317 := n13_
                 have GW317 := n14_
                 have GE317 := n15_
                 have NB240_317 := n16_
                 have NB317_240 := n17_
                 have NB241_317 := n18_
                 have NB317_241 := n19_
                 have NB260_317 := n20_
                 have NB317_260 := n21_
                 have NB266_317 := n22_
                 have NB317_266 := n23_
                 have NB272_317 := n24_
                 have NB317_272 := n25_
                 have NB279_317 := n26_
                 have NB317_279 := n27_
                 clear n0_ n1_ n2_ n3_ n4_ n5_ n6_ n7_ n8_ n9_ n10_ n11_ n12_ n13_ n14_ n15_ n16_ n17_ n18_ n19_ n20_ n21_ n22_ n23_ n24_ n25_ n26_ n27_ hb hbox hg
                 obtain ⟨Ao156, co156, eo156⟩ := Kd.R_slice HO304.out
                 (first | subst eo156 | (injection eo156 with f1_ f2_ f3_; have f4_ := f1_.symm; have f5_ := f3_.symm; clear f1_ f2_ f3_; subst f4_; subst f5_))
                 obtain ⟨Ao157, co157, eo157⟩ := Kd.R_slice HO309.out
                 (first | subst eo157 | (injection eo157 with f1_ f2_ f3_; have f4_ := f1_.symm; have f5_ := f3_.symm; clear f1_ f2_ f3_; subst f4_; subst f5_))
                 refine hK.out _ _ ⟨(blk_cell BK240.out 0).trans rfl, (blk_cell BK240.out 1).trans rfl, (blk_cell BK240.out 2).trans rfl, (blk_cell BK241.out 0).trans rfl, (blk_cell BK241.out 1).trans rfl, (blk_cell BK241.out 2).trans rfl⟩ (fun hHeld => ?_)
                 clear hK K
                 refine norm_ (a' := ?_) ?_ ?_
                 rotate_left
                 ·show Act.put _ (some 15) _ = _
                  simp only [Act.put, List.setIfInBounds_toArray, List.set_cons_zero, List.set_cons_succ, i64_w, i32_w]
                  rfl
                 refine one_ (i := 4) (N := some 99) #[true, true, true, true, true, false, false, false, true, false, false] rfl rfl (one_of HT_.out (by kernel_rfl)) (by decide) (fun K hK => ?_)
                 refine goes_ Try.func30 (by kernel_rfl) rfl #[.agg #[.int .i64 t301, .slice Ao156 t302.length co156, .int .i64 t305], .agg #[.int .i64 t306, .slice Ao157 t307.length co157, .int .i64 t310]] (by rfl) rfl rfl (by (try simp only [List.map_toArray, List.map_cons, List.map_nil]); first | done | rfl | (simp only [List.length_drop, List.length_take]; rfl)) ?_
                 with_reducible refine (impl_BothOf.calls kj96 t301 _ _ t302 t305 t306 _ _ t307 t310 t311 t312 t315 t316 _ ?side1 ?side2 ?side3 ?side4 A141.out).mono ?_
                 (case side1 => repeat (first | exact (Kd.R_reads' HO304.out).2.2 | (with_reducible refine Kd.C_alloc ?_ _) | (with_reducible refine Kd.C_drewN ?_ _) | (with_reducible refine Kd.C_drew ?_)))
                 (case side2 => exact (Kd.R_reads' HO304.out).2.1)
                 (case side3 => repeat (first | exact (Kd.R_reads' HO309.out).2.2 | (with_reducible refine Kd.C_alloc ?_ _) | (with_reducible refine Kd.C_drewN ?_ _) | (with_reducible refine Kd.C_drew ?_)))
                 (case side4 => exact (Kd.R_reads' HO309.out).2.1)
                 rintro e w158 ⟨v313, rfl, ho0, hb⟩
                 refine ⟨_, rfl, ?_⟩
                 have n0_ := Aside0.mk (Kd.R_elder' (rq_ HO_261001.out) (Kd.R_base ho0) hb)
                 have n1_ := Aside0.mk (Kd.R_elder' (rq_ HO_267001.out) (Kd.R_base ho0) hb)
                 have n2_ := Aside0.mk (Kd.R_elder' (rq_ HO_273001.out) (Kd.R_base ho0) hb)
                 have n3_ := Aside0.mk (Kd.R_elder' (rq_ HO_280001.out) (Kd.R_base ho0) hb)
                 have n4_ := Aside0.mk (Kd.R_elder' (rq_ HO304.out) (Kd.R_base ho0) hb)
                 have n5_ := Aside0.mk (Kd.R_elder' (rq_ HO309.out) (Kd.R_base ho0) hb)
                 have n6_ := Aside0.mk (Kd.R_lower (Kd.R_new' (Kd.R_new' (Kd.R_new' (Kd.R_new' (Kd.R_new' (Kd.R_new' ho0 (Kd.R_lt (rq_ HO_261001.out))) (Kd.R_lt (rq_ HO_267001.out))) (Kd.R_lt (rq_ HO_273001.out))) (Kd.R_lt (rq_ HO_280001.out))) (Kd.R_lt (rq_ HO304.out))) (Kd.R_lt (rq_ HO309.out))) (below_size (bq_)))
                 have n7_ := Aside0.mk (blk_below (bk_ BK240.out) hb)
                 have n8_ := Aside0.mk (blk_below (bk_ BK241.out) hb)
                 have n9_ := Aside0.mk (blk_below (bk_ BK260.out) hb)
                 have n10_ := Aside0.mk (blk_below (bk_ BK266.out) hb)
                 have n11_ := Aside0.mk (blk_below (bk_ BK272.out) hb)
                 have n12_ := Aside0.mk (blk_below (bk_ BK279.out) hb)
                 have n13_ := Aside0.mk (blk_below (bk_ BK317.out) hb)
                 have n14_ := Aside0.mk (below_step (bq_) hb)
                 clear HO_261001 HO_267001 HO_273001 HO_280001 HO304 HO309 BK240 BK241 BK260 BK266 BK272 BK279 BK317 HB
                 have HO_261001 := n0_
                 have HO_267001 := n1_
                 have HO_273001 := n2_
                 have HO_280001 := n3_
                 have HO304 := n4_
                 have HO309 := n5_
                 have HO314 := n6_
                 have BK240 := n7_
                 have BK241 := n8_
                 have BK260 := n9_
                 have BK266 := n10_
                 have BK272 := n11_
                 have BK279 := n12_
                 have BK317 := n13_
                 have HB := n14_
                 clear n0_ n1_ n2_ n3_ n4_ n5_ n6_ n7_ n8_ n9_ n10_ n11_ n12_ n13_ n14_
                 (try clear hb)
                 (try clear hb2)
                 (try clear hk)
                 (try clear hi)
                 (try clear ho0)
                 refine hK.out _ _ ⟨(blk_cell BK240.out 0).trans rfl, (blk_cell BK240.out 1).trans rfl, (blk_cell BK240.out 2).trans rfl, (blk_cell BK241.out 0).trans rfl, (blk_cell BK241.out 1).trans rfl, (blk_cell BK241.out 2).trans rfl⟩ (fun hHeld => ?_)
                 clear hK K
                 refine norm_ (a' := ?_) ?_ ?_
                 rotate_left
                 ·show Act.put _ (some 99) _ = _
                  simp only [Act.put, List.setIfInBounds_toArray, List.set_cons_zero, List.set_cons_succ, i64_w, i32_w]
                  rfl
                 refine pure_ (i := 5) (N := some 94) (v := ?_) (a' := ?_) #[true, true, true, true, true, true, false, false, true, false, false] rfl rfl (any_of HT_.out (by kernel_rfl)) (fun _ _ _ h => h) (Or.inl ⟨by rfl, ?_⟩) ?_ ?_
                 rotate_left
                 ·intro w'
                  go_simp
                  with_reducible rfl
                 rotate_left
                 ·simp only [Act.put, List.setIfInBounds_toArray, List.set_cons_zero, List.set_cons_succ, i64_w, i32_w]
                  rfl
                 refine pure_ (i := 6) (N := some 100) (v := ?_) (a' := ?_) #[true, true, true, true, true, true, true, false, true, false, false] rfl rfl (any_of HT_.out (by kernel_rfl)) (fun _ _ _ h => h) (Or.inl ⟨by rfl, ?_⟩) ?_ ?_
                 rotate_left
                 ·intro w'
                  go_simp
                  with_reducible rfl
                 rotate_left
                 ·simp only [Act.put, List.setIfInBounds_toArray, List.set_cons_zero, List.set_cons_succ, i64_w, i32_w]
                  rfl
                 refine pure_ (i := 7) (N := some 101) (v := ?_) (a' := ?_) #[true, true, true, true, true, true, true, true, true, false, false] rfl rfl (any_of HT_.out (by kernel_rfl)) (fun _ _ _ h => h) (Or.inl ⟨by rfl, ?_⟩) ?_ ?_
                 rotate_left
                 ·intro w'
                  go_simp
                  with_reducible rfl
                 rotate_left
                 ·simp only [Act.put, List.setIfInBounds_toArray, List.set_cons_zero, List.set_cons_succ, i64_w, i32_w]
                  rfl
                 exact norm_ (by simp only [putAll, Act.put, List.setIfInBounds_toArray, List.set_cons_zero, List.set_cons_succ]) (hCont (.slice Ao156 t302.length co156, .slice Ao157 t307.length co157, v313, gb317) _ ⟨hHeld, (rq_ (Kd.R_mono HO304.out (fun _ hk => ⟨hk.1.2, ⟨hk.2, ⟨hk.1.1.1.1.1.2, ⟨hk.1.1.1.1.2, ⟨hk.1.1.1.2, hk.1.1.2⟩⟩⟩⟩⟩))), (rq_ (Kd.R_mono HO309.out (fun _ hk => ⟨hk.1.2, ⟨hk.2, ⟨hk.1.1.1.1.1.2, ⟨hk.1.1.1.1.2, ⟨hk.1.1.1.2, hk.1.1.2⟩⟩⟩⟩⟩))), (rq_ (Kd.R_mono HO314.out (fun _ hk => ⟨hk.1.2, ⟨hk.2, ⟨hk.1.1.1.1.1.2, ⟨hk.1.1.1.1.2, ⟨hk.1.1.1.2, hk.1.1.2⟩⟩⟩⟩⟩))), (rq_ (Kd.R_mono HO_261001.out (fun _ hk => ⟨hk.1.1.2, ⟨hk.1.2, ⟨hk.2, ⟨hk.1.1.1.1, ⟨hk.1.1.1.2.1, hk.1.1.1.2.2⟩⟩⟩⟩⟩))), (rq_ (Kd.R_mono HO_267001.out (fun _ hk => ⟨hk.1.1.2, ⟨hk.1.2, ⟨hk.2, ⟨hk.1.1.1.1, ⟨hk.1.1.1.2.1, hk.1.1.1.2.2⟩⟩⟩⟩⟩))), (rq_ (Kd.R_mono HO_273001.out (fun _ hk => ⟨hk.1.1.2, ⟨hk.1.2, ⟨hk.2, ⟨hk.1.1.1.1, ⟨hk.1.1.1.2.1, hk.1.1.1.2.2⟩⟩⟩⟩⟩))), (rq_ (Kd.R_mono HO_280001.out (fun _ hk => ⟨hk.1.1.2, ⟨hk.1.2, ⟨hk.2, ⟨hk.1.1.1.1, ⟨hk.1.1.1.2.1, hk.1.1.1.2.2⟩⟩⟩⟩⟩))), (bk_ BK240.out), (bk_ BK241.out), (bk_ BK260.out), (bk_ BK266.out), (bk_ BK272.out), (bk_ BK279.out), (bk_ BK317.out), GW317.out, GE317.out, NB240_317.out, NB317_240.out, NB241_317.out, NB317_241.out, NB260_317.out, NB317_260.out, NB266_317.out, NB317_266.out, NB272_317.out, NB317_272.out, NB279_317.out, NB317_279.out, (bq_)⟩)
               ·skip
                refine box_step ?hg (N := 15) ?hd (cs := #[.int .i64 0, .slice none 0 0, .int .i64 0]) (t := 30) ?hr ?_; (case hd => rfl); (case hg => rfl); (case hr => first | (go_simp; done) | (go_simp; rfl))
                intro gb317 hg w154 hbox hb
                have n0_ := Aside0.mk (Kd.R_below (rq_ HO_261001.out) hb)
                have n1_ := Aside0.mk (Kd.R_below (rq_ HO_267001.out) hb)
                have n2_ := Aside0.mk (Kd.R_below (rq_ HO_273001.out) hb)
                have n3_ := Aside0.mk (Kd.R_below (rq_ HO_280001.out) hb)
                have n4_ := Aside0.mk (Kd.R_below (rq_ HO304.out) hb)
                have n5_ := Aside0.mk (blk_below (bk_ BK240.out) hb)
                have n6_ := Aside0.mk (blk_below (bk_ BK241.out) hb)
                have n7_ := Aside0.mk (blk_below (bk_ BK260.out) hb)
                have n8_ := Aside0.mk (blk_below (bk_ BK266.out) hb)
                have n9_ := Aside0.mk (blk_below (bk_ BK272.out) hb)
                have n10_ := Aside0.mk (blk_below (bk_ BK279.out) hb)
                have n11_ := Aside0.mk (below_step (bq_) hb)
                have n12_ := Aside0.mk (hbox)
                have n13_ := Aside0.mk ((by rw [hg]; exact (below_size (bq_)) : w.heap.size ≤ gb317))
                have n14_ := Aside0.mk ((by rw [hg]; exact (below_size (bq_)) : w.heap.size ≤ gb317))
                have n15_ := Aside0.mk ((by rw [hg]; exact Nat.ne_of_lt (blk_lt (bk_ BK240.out)) : gb240 ≠ gb317))
                have n16_ := Aside0.mk ((by rw [hg]; exact Nat.ne_of_gt (blk_lt (bk_ BK240.out)) : gb317 ≠ gb240))
                have n17_ := Aside0.mk ((by rw [hg]; exact Nat.ne_of_lt (blk_lt (bk_ BK241.out)) : gb241 ≠ gb317))
                have n18_ := Aside0.mk ((by rw [hg]; exact Nat.ne_of_gt (blk_lt (bk_ BK241.out)) : gb317 ≠ gb241))
                have n19_ := Aside0.mk ((by rw [hg]; exact Nat.ne_of_lt (blk_lt (bk_ BK260.out)) : gb260 ≠ gb317))
                have n20_ := Aside0.mk ((by rw [hg]; exact Nat.ne_of_gt (blk_lt (bk_ BK260.out)) : gb317 ≠ gb260))
                have n21_ := Aside0.mk ((by rw [hg]; exact Nat.ne_of_lt (blk_lt (bk_ BK266.out)) : gb266 ≠ gb317))
                have n22_ := Aside0.mk ((by rw [hg]; exact Nat.ne_of_gt (blk_lt (bk_ BK266.out)) : gb317 ≠ gb266))
                have n23_ := Aside0.mk ((by rw [hg]; exact Nat.ne_of_lt (blk_lt (bk_ BK272.out)) : gb272 ≠ gb317))
                have n24_ := Aside0.mk ((by rw [hg]; exact Nat.ne_of_gt (blk_lt (bk_ BK272.out)) : gb317 ≠ gb272))
                have n25_ := Aside0.mk ((by rw [hg]; exact Nat.ne_of_lt (blk_lt (bk_ BK279.out)) : gb279 ≠ gb317))
                have n26_ := Aside0.mk ((by rw [hg]; exact Nat.ne_of_gt (blk_lt (bk_ BK279.out)) : gb317 ≠ gb279))
                clear HO_261001 HO_267001 HO_273001 HO_280001 HO304 BK240 BK241 BK260 BK266 BK272 BK279 HB
                have HO_261001 := n0_
                have HO_267001 := n1_
                have HO_273001 := n2_
                have HO_280001 := n3_
                have HO304 := n4_
                have BK240 := n5_
                have BK241 := n6_
                have BK260 := n7_
                have BK266 := n8_
                have BK272 := n9_
                have BK279 := n10_
                have HB := n11_
                have BK317 := n12_
                have GW317 := n13_
                have GE317 := n14_
                have NB240_317 := n15_
                have NB317_240 := n16_
                have NB241_317 := n17_
                have NB317_241 := n18_
                have NB260_317 := n19_
                have NB317_260 := n20_
                have NB266_317 := n21_
                have NB317_266 := n22_
                have NB272_317 := n23_
                have NB317_272 := n24_
                have NB279_317 := n25_
                have NB317_279 := n26_
                clear n0_ n1_ n2_ n3_ n4_ n5_ n6_ n7_ n8_ n9_ n10_ n11_ n12_ n13_ n14_ n15_ n16_ n17_ n18_ n19_ n20_ n21_ n22_ n23_ n24_ n25_ n26_ hb hbox hg
                refine hK.out _ _ ⟨(blk_cell BK240.out 0).trans rfl, (blk_cell BK240.out 1).trans rfl, (blk_cell BK240.out 2).trans rfl, (blk_cell BK241.out 0).trans rfl, (blk_cell BK241.out 1).trans rfl, (blk_cell BK241.out 2).trans rfl⟩ (fun hHeld => ?_)
                clear hK K
                refine norm_ (a' := ?_) ?_ ?_
                rotate_left
                ·show Act.put _ (some 15) _ = _
                 simp only [Act.put, List.setIfInBounds_toArray, List.set_cons_zero, List.set_cons_succ, i64_w, i32_w]
                 rfl
                refine one_ (i := 3) (N := some 98) #[true, true, true, true, false, false, false, false, true, false, false] rfl rfl (one_of HT_.out (by kernel_rfl)) (by decide) (fun K hK => ?_)
                refine goes_ Try.func14 (by kernel_rfl) rfl #[.agg #[.int .i64 a1_0, .slice A1_1 l1_1.length c1_1, .int .i64 a1_2]] (by rfl) rfl rfl (by (try simp only [List.map_toArray, List.map_cons, List.map_nil]); first | done | rfl | (simp only [List.length_drop, List.length_take]; rfl)) ?_
                with_reducible refine (laws_toDiagram.calls kj96 a1_0 _ _ l1_1 a1_2 t306 t307 t310 _ ?side1 ?side2 A140.out).mono ?_
                (case side1 => repeat (first | exact (Kd.C_below HR1_1.out HB.out) | (with_reducible refine Kd.C_alloc ?_ _) | (with_reducible refine Kd.C_drewN ?_ _) | (with_reducible refine Kd.C_drew ?_)))
                (case side2 => exact HC1_1.out)
                rintro e w155 ⟨v308, rfl, ho0, hb⟩
                refine ⟨_, rfl, ?_⟩
                have n0_ := Aside0.mk (Kd.R_elder' (rq_ HO_261001.out) (Kd.R_base ho0) hb)
                have n1_ := Aside0.mk (Kd.R_elder' (rq_ HO_267001.out) (Kd.R_base ho0) hb)
                have n2_ := Aside0.mk (Kd.R_elder' (rq_ HO_273001.out) (Kd.R_base ho0) hb)
                have n3_ := Aside0.mk (Kd.R_elder' (rq_ HO_280001.out) (Kd.R_base ho0) hb)
                have n4_ := Aside0.mk (Kd.R_elder' (rq_ HO304.out) (Kd.R_base ho0) hb)
                have n5_ := Aside0.mk (Kd.R_lower (Kd.R_new' (Kd.R_new' (Kd.R_new' (Kd.R_new' (Kd.R_new' ho0 (Kd.R_lt (rq_ HO_261001.out))) (Kd.R_lt (rq_ HO_267001.out))) (Kd.R_lt (rq_ HO_273001.out))) (Kd.R_lt (rq_ HO_280001.out))) (Kd.R_lt (rq_ HO304.out))) (below_size (bq_)))
                have n6_ := Aside0.mk (blk_below (bk_ BK240.out) hb)
                have n7_ := Aside0.mk (blk_below (bk_ BK241.out) hb)
                have n8_ := Aside0.mk (blk_below (bk_ BK260.out) hb)
                have n9_ := Aside0.mk (blk_below (bk_ BK266.out) hb)
                have n10_ := Aside0.mk (blk_below (bk_ BK272.out) hb)
                have n11_ := Aside0.mk (blk_below (bk_ BK279.out) hb)
                have n12_ := Aside0.mk (blk_below (bk_ BK317.out) hb)
                have n13_ := Aside0.mk (below_step (bq_) hb)
                clear HO_261001 HO_267001 HO_273001 HO_280001 HO304 BK240 BK241 BK260 BK266 BK272 BK279 BK317 HB
                have HO_261001 := n0_
                have HO_267001 := n1_
                have HO_273001 := n2_
                have HO_280001 := n3_
                have HO304 := n4_
                have HO309 := n5_
                have BK240 := n6_
                have BK241 := n7_
                have BK260 := n8_
                have BK266 := n9_
                have BK272 := n10_
                have BK279 := n11_
                have BK317 := n12_
                have HB := n13_
                clear n0_ n1_ n2_ n3_ n4_ n5_ n6_ n7_ n8_ n9_ n10_ n11_ n12_ n13_
                (try clear hb)
                (try clear hb2)
                (try clear hk)
                (try clear hi)
                (try clear ho0)
                obtain ⟨Ao156, co156, eo156⟩ := Kd.R_slice HO304.out
                (first | subst eo156 | (injection eo156 with f1_ f2_ f3_; have f4_ := f1_.symm; have f5_ := f3_.symm; clear f1_ f2_ f3_; subst f4_; subst f5_))
                obtain ⟨Ao157, co157, eo157⟩ := Kd.R_slice HO309.out
                (first | subst eo157 | (injection eo157 with f1_ f2_ f3_; have f4_ := f1_.symm; have f5_ := f3_.symm; clear f1_ f2_ f3_; subst f4_; subst f5_))
                refine hK.out _ _ ⟨(blk_cell BK240.out 0).trans rfl, (blk_cell BK240.out 1).trans rfl, (blk_cell BK240.out 2).trans rfl, (blk_cell BK241.out 0).trans rfl, (blk_cell BK241.out 1).trans rfl, (blk_cell BK241.out 2).trans rfl⟩ (fun hHeld => ?_)
                clear hK K
                refine norm_ (a' := ?_) ?_ ?_
                rotate_left
                ·show Act.put _ (some 98) _ = _
                 simp only [Act.put, List.setIfInBounds_toArray, List.set_cons_zero, List.set_cons_succ, i64_w, i32_w]
                 rfl
                refine one_ (i := 4) (N := some 99) #[true, true, true, true, true, false, false, false, true, false, false] rfl rfl (one_of HT_.out (by kernel_rfl)) (by decide) (fun K hK => ?_)
                refine goes_ Try.func30 (by kernel_rfl) rfl #[.agg #[.int .i64 t301, .slice Ao156 t302.length co156, .int .i64 t305], .agg #[.int .i64 t306, .slice Ao157 t307.length co157, .int .i64 t310]] (by rfl) rfl rfl (by (try simp only [List.map_toArray, List.map_cons, List.map_nil]); first | done | rfl | (simp only [List.length_drop, List.length_take]; rfl)) ?_
                with_reducible refine (impl_BothOf.calls kj96 t301 _ _ t302 t305 t306 _ _ t307 t310 t311 t312 t315 t316 _ ?side1 ?side2 ?side3 ?side4 A141.out).mono ?_
                (case side1 => repeat (first | exact (Kd.R_reads' HO304.out).2.2 | (with_reducible refine Kd.C_alloc ?_ _) | (with_reducible refine Kd.C_drewN ?_ _) | (with_reducible refine Kd.C_drew ?_)))
                (case side2 => exact (Kd.R_reads' HO304.out).2.1)
                (case side3 => repeat (first | exact (Kd.R_reads' HO309.out).2.2 | (with_reducible refine Kd.C_alloc ?_ _) | (with_reducible refine Kd.C_drewN ?_ _) | (with_reducible refine Kd.C_drew ?_)))
                (case side4 => exact (Kd.R_reads' HO309.out).2.1)
                rintro e w158 ⟨v313, rfl, ho0, hb⟩
                refine ⟨_, rfl, ?_⟩
                have n0_ := Aside0.mk (Kd.R_elder' (rq_ HO_261001.out) (Kd.R_base ho0) hb)
                have n1_ := Aside0.mk (Kd.R_elder' (rq_ HO_267001.out) (Kd.R_base ho0) hb)
                have n2_ := Aside0.mk (Kd.R_elder' (rq_ HO_273001.out) (Kd.R_base ho0) hb)
                have n3_ := Aside0.mk (Kd.R_elder' (rq_ HO_280001.out) (Kd.R_base ho0) hb)
                have n4_ := Aside0.mk (Kd.R_elder' (rq_ HO304.out) (Kd.R_base ho0) hb)
                have n5_ := Aside0.mk (Kd.R_elder' (rq_ HO309.out) (Kd.R_base ho0) hb)
                have n6_ := Aside0.mk (Kd.R_lower (Kd.R_new' (Kd.R_new' (Kd.R_new' (Kd.R_new' (Kd.R_new' (Kd.R_new' ho0 (Kd.R_lt (rq_ HO_261001.out))) (Kd.R_lt (rq_ HO_267001.out))) (Kd.R_lt (rq_ HO_273001.out))) (Kd.R_lt (rq_ HO_280001.out))) (Kd.R_lt (rq_ HO304.out))) (Kd.R_lt (rq_ HO309.out))) (below_size (bq_)))
                have n7_ := Aside0.mk (blk_below (bk_ BK240.out) hb)
                have n8_ := Aside0.mk (blk_below (bk_ BK241.out) hb)
                have n9_ := Aside0.mk (blk_below (bk_ BK260.out) hb)
                have n10_ := Aside0.mk (blk_below (bk_ BK266.out) hb)
                have n11_ := Aside0.mk (blk_below (bk_ BK272.out) hb)
                have n12_ := Aside0.mk (blk_below (bk_ BK279.out) hb)
                have n13_ := Aside0.mk (blk_below (bk_ BK317.out) hb)
                have n14_ := Aside0.mk (below_step (bq_) hb)
                clear HO_261001 HO_267001 HO_273001 HO_280001 HO304 HO309 BK240 BK241 BK260 BK266 BK272 BK279 BK317 HB
                have HO_261001 := n0_
                have HO_267001 := n1_
                have HO_273001 := n2_
                have HO_280001 := n3_
                have HO304 := n4_
                have HO309 := n5_
                have HO314 := n6_
                have BK240 := n7_
                have BK241 := n8_
                have BK260 := n9_
                have BK266 := n10_
                have BK272 := n11_
                have BK279 := n12_
                have BK317 := n13_
                have HB := n14_
                clear n0_ n1_ n2_ n3_ n4_ n5_ n6_ n7_ n8_ n9_ n10_ n11_ n12_ n13_ n14_
                (try clear hb)
                (try clear hb2)
                (try clear hk)
                (try clear hi)
                (try clear ho0)
                refine hK.out _ _ ⟨(blk_cell BK240.out 0).trans rfl, (blk_cell BK240.out 1).trans rfl, (blk_cell BK240.out 2).trans rfl, (blk_cell BK241.out 0).trans rfl, (blk_cell BK241.out 1).trans rfl, (blk_cell BK241.out 2).trans rfl⟩ (fun hHeld => ?_)
                clear hK K
                refine norm_ (a' := ?_) ?_ ?_
                rotate_left
                ·show Act.put _ (some 99) _ = _
                 simp only [Act.put, List.setIfInBounds_toArray, List.set_cons_zero, List.set_cons_succ, i64_w, i32_w]
                 rfl
                refine pure_ (i := 5) (N := some 94) (v := ?_) (a' := ?_) #[true, true, true, true, true, true, false, false, true, false, false] rfl rfl (any_of HT_.out (by kernel_rfl)) (fun _ _ _ h => h) (Or.inl ⟨by rfl, ?_⟩) ?_ ?_
                rotate_left
                ·intro w'
                 go_simp
                 with_reducible rfl
                rotate_left
                ·simp only [Act.put, List.setIfInBounds_toArray, List.set_cons_zero, List.set_cons_succ, i64_w, i32_w]
                 rfl
                refine pure_ (i := 6) (N := some 100) (v := ?_) (a' := ?_) #[true, true, true, true, true, true, true, false, true, false, false] rfl rfl (any_of HT_.out (by kernel_rfl)) (fun _ _ _ h => h) (Or.inl ⟨by rfl, ?_⟩) ?_ ?_
                rotate_left
                ·intro w'
                 go_simp
                 with_reducible rfl
                rotate_left
                ·simp only [Act.put, List.setIfInBounds_toArray, List.set_cons_zero, List.set_cons_succ, i64_w, i32_w]
                 rfl
                refine pure_ (i := 7) (N := some 101) (v := ?_) (a' := ?_) #[true, true, true, true, true, true, true, true, true, false, false] rfl rfl (any_of HT_.out (by kernel_rfl)) (fun _ _ _ h => h) (Or.inl ⟨by rfl, ?_⟩) ?_ ?_
                rotate_left
                ·intro w'
                 go_simp
                 with_reducible rfl
                rotate_left
                ·simp only [Act.put, List.setIfInBounds_toArray, List.set_cons_zero, List.set_cons_succ, i64_w, i32_w]
                 rfl
                exact norm_ (by simp only [putAll, Act.put, List.setIfInBounds_toArray, List.set_cons_zero, List.set_cons_succ]) (hCont (.slice Ao156 t302.length co156, .slice Ao157 t307.length co157, v313, gb317) _ ⟨hHeld, (rq_ (Kd.R_mono HO304.out (fun _ hk => ⟨hk.1.2, ⟨hk.2, ⟨hk.1.1.1.1.1.2, ⟨hk.1.1.1.1.2, ⟨hk.1.1.1.2, hk.1.1.2⟩⟩⟩⟩⟩))), (rq_ (Kd.R_mono HO309.out (fun _ hk => ⟨hk.1.2, ⟨hk.2, ⟨hk.1.1.1.1.1.2, ⟨hk.1.1.1.1.2, ⟨hk.1.1.1.2, hk.1.1.2⟩⟩⟩⟩⟩))), (rq_ (Kd.R_mono HO314.out (fun _ hk => ⟨hk.1.2, ⟨hk.2, ⟨hk.1.1.1.1.1.2, ⟨hk.1.1.1.1.2, ⟨hk.1.1.1.2, hk.1.1.2⟩⟩⟩⟩⟩))), (rq_ (Kd.R_mono HO_261001.out (fun _ hk => ⟨hk.1.1.2, ⟨hk.1.2, ⟨hk.2, ⟨hk.1.1.1.1, ⟨hk.1.1.1.2.1, hk.1.1.1.2.2⟩⟩⟩⟩⟩))), (rq_ (Kd.R_mono HO_267001.out (fun _ hk => ⟨hk.1.1.2, ⟨hk.1.2, ⟨hk.2, ⟨hk.1.1.1.1, ⟨hk.1.1.1.2.1, hk.1.1.1.2.2⟩⟩⟩⟩⟩))), (rq_ (Kd.R_mono HO_273001.out (fun _ hk => ⟨hk.1.1.2, ⟨hk.1.2, ⟨hk.2, ⟨hk.1.1.1.1, ⟨hk.1.1.1.2.1, hk.1.1.1.2.2⟩⟩⟩⟩⟩))), (rq_ (Kd.R_mono HO_280001.out (fun _ hk => ⟨hk.1.1.2, ⟨hk.1.2, ⟨hk.2, ⟨hk.1.1.1.1, ⟨hk.1.1.1.2.1, hk.1.1.1.2.2⟩⟩⟩⟩⟩))), (bk_ BK240.out), (bk_ BK241.out), (bk_ BK260.out), (bk_ BK266.out), (bk_ BK272.out), (bk_ BK279.out), (bk_ BK317.out), GW317.out, GE317.out, NB240_317.out, NB317_240.out, NB241_317.out, NB317_241.out, NB260_317.out, NB317_260.out, NB266_317.out, NB317_266.out, NB272_317.out, NB317_272.out, NB279_317.out, NB317_279.out, (bq_)⟩)
              ·skip
               refine box_step ?hg (N := 15) ?hd (cs := #[.int .i64 0, .slice none 0 0, .int .i64 0]) (t := 30) ?hr ?_; (case hd => rfl); (case hg => rfl); (case hr => first | (go_simp; done) | (go_simp; rfl))
               intro gb317 hg w153 hbox hb
               have n0_ := Aside0.mk (Kd.R_below (rq_ HO_261001.out) hb)
               have n1_ := Aside0.mk (Kd.R_below (rq_ HO_267001.out) hb)
               have n2_ := Aside0.mk (Kd.R_below (rq_ HO_273001.out) hb)
               have n3_ := Aside0.mk (Kd.R_below (rq_ HO_280001.out) hb)
               have n4_ := Aside0.mk (blk_below (bk_ BK240.out) hb)
               have n5_ := Aside0.mk (blk_below (bk_ BK241.out) hb)
               have n6_ := Aside0.mk (blk_below (bk_ BK260.out) hb)
               have n7_ := Aside0.mk (blk_below (bk_ BK266.out) hb)
               have n8_ := Aside0.mk (blk_below (bk_ BK272.out) hb)
               have n9_ := Aside0.mk (blk_below (bk_ BK279.out) hb)
               have n10_ := Aside0.mk (below_step (bq_) hb)
               have n11_ := Aside0.mk (hbox)
               have n12_ := Aside0.mk ((by rw [hg]; exact (below_size (bq_)) : w.heap.size ≤ gb317))
               have n13_ := Aside0.mk ((by rw [hg]; exact (below_size (bq_)) : w.heap.size ≤ gb317))
               have n14_ := Aside0.mk ((by rw [hg]; exact Nat.ne_of_lt (blk_lt (bk_ BK240.out)) : gb240 ≠ gb317))
               have n15_ := Aside0.mk ((by rw [hg]; exact Nat.ne_of_gt (blk_lt (bk_ BK240.out)) : gb317 ≠ gb240))
               have n16_ := Aside0.mk ((by rw [hg]; exact Nat.ne_of_lt (blk_lt (bk_ BK241.out)) : gb241 ≠ gb317))
               have n17_ := Aside0.mk ((by rw [hg]; exact Nat.ne_of_gt (blk_lt (bk_ BK241.out)) : gb317 ≠ gb241))
               have n18_ := Aside0.mk ((by rw [hg]; exact Nat.ne_of_lt (blk_lt (bk_ BK260.out)) : gb260 ≠ gb317))
               have n19_ := Aside0.mk ((by rw [hg]; exact Nat.ne_of_gt (blk_lt (bk_ BK260.out)) : gb317 ≠ gb260))
               have n20_ := Aside0.mk ((by rw [hg]; exact Nat.ne_of_lt (blk_lt (bk_ BK266.out)) : gb266 ≠ gb317))
               have n21_ := Aside0.mk ((by rw [hg]; exact Nat.ne_of_gt (blk_lt (bk_ BK266.out)) : gb317 ≠ gb266))
               have n22_ := Aside0.mk ((by rw [hg]; exact Nat.ne_of_lt (blk_lt (bk_ BK272.out)) : gb272 ≠ gb317))
               have n23_ := Aside0.mk ((by rw [hg]; exact Nat.ne_of_gt (blk_lt (bk_ BK272.out)) : gb317 ≠ gb272))
               have n24_ := Aside0.mk ((by rw [hg]; exact Nat.ne_of_lt (blk_lt (bk_ BK279.out)) : gb279 ≠ gb317))
               have n25_ := Aside0.mk ((by rw [hg]; exact Nat.ne_of_gt (blk_lt (bk_ BK279.out)) : gb317 ≠ gb279))
               clear HO_261001 HO_267001 HO_273001 HO_280001 BK240 BK241 BK260 BK266 BK272 BK279 HB
               have HO_261001 := n0_
               have HO_267001 := n1_
               have HO_273001 := n2_
               have HO_280001 := n3_
               have BK240 := n4_
               have BK241 := n5_
               have BK260 := n6_
               have BK266 := n7_
               have BK272 := n8_
               have BK279 := n9_
               have HB := n10_
               have BK317 := n11_
               have GW317 := n12_
               have GE317 := n13_
               have NB240_317 := n14_
               have NB317_240 := n15_
               have NB241_317 := n16_
               have NB317_241 := n17_
               have NB260_317 := n18_
               have NB317_260 := n19_
               have NB266_317 := n20_
               have NB317_266 := n21_
               have NB272_317 := n22_
               have NB317_272 := n23_
               have NB279_317 := n24_
               have NB317_279 := n25_
               clear n0_ n1_ n2_ n3_ n4_ n5_ n6_ n7_ n8_ n9_ n10_ n11_ n12_ n13_ n14_ n15_ n16_ n17_ n18_ n19_ n20_ n21_ n22_ n23_ n24_ n25_ hb hbox hg
               refine hK.out _ _ ⟨(blk_cell BK240.out 0).trans rfl, (blk_cell BK240.out 1).trans rfl, (blk_cell BK240.out 2).trans rfl, (blk_cell BK241.out 0).trans rfl, (blk_cell BK241.out 1).trans rfl, (blk_cell BK241.out 2).trans rfl⟩ (fun hHeld => ?_)
               clear hK K
               refine norm_ (a' := ?_) ?_ ?_
               rotate_left
               ·show Act.put _ (some 15) _ = _
                simp only [Act.put, List.setIfInBounds_toArray, List.set_cons_zero, List.set_cons_succ, i64_w, i32_w]
                rfl
               refine one_ (i := 1) (N := some 96) #[true, true, true, false, false, false, false, false, true, false, false] rfl rfl (one_of HT_.out (by kernel_rfl)) (by decide) (fun K hK => ?_)
               refine goes_ Try.func14 (by kernel_rfl) rfl #[.agg #[.int .i64 a0_0, .slice A0_1 l0_1.length c0_1, .int .i64 a0_2]] (by rfl) rfl rfl (by (try simp only [List.map_toArray, List.map_cons, List.map_nil]); first | done | rfl | (simp only [List.length_drop, List.length_take]; rfl)) ?_
               with_reducible refine (laws_toDiagram.calls kj96 a0_0 _ _ l0_1 a0_2 t301 t302 t305 _ ?side1 ?side2 A139.out).mono ?_
               (case side1 => repeat (first | exact (Kd.C_below HR0_1.out HB.out) | (with_reducible refine Kd.C_alloc ?_ _) | (with_reducible refine Kd.C_drewN ?_ _) | (with_reducible refine Kd.C_drew ?_)))
               (case side2 => exact HC0_1.out)
               rintro e w154 ⟨v303, rfl, ho0, hb⟩
               refine ⟨_, rfl, ?_⟩
               have n0_ := Aside0.mk (Kd.R_elder' (rq_ HO_261001.out) (Kd.R_base ho0) hb)
               have n1_ := Aside0.mk (Kd.R_elder' (rq_ HO_267001.out) (Kd.R_base ho0) hb)
               have n2_ := Aside0.mk (Kd.R_elder' (rq_ HO_273001.out) (Kd.R_base ho0) hb)
               have n3_ := Aside0.mk (Kd.R_elder' (rq_ HO_280001.out) (Kd.R_base ho0) hb)
               have n4_ := Aside0.mk (Kd.R_lower (Kd.R_new' (Kd.R_new' (Kd.R_new' (Kd.R_new' ho0 (Kd.R_lt (rq_ HO_261001.out))) (Kd.R_lt (rq_ HO_267001.out))) (Kd.R_lt (rq_ HO_273001.out))) (Kd.R_lt (rq_ HO_280001.out))) (below_size (bq_)))
               have n5_ := Aside0.mk (blk_below (bk_ BK240.out) hb)
               have n6_ := Aside0.mk (blk_below (bk_ BK241.out) hb)
               have n7_ := Aside0.mk (blk_below (bk_ BK260.out) hb)
               have n8_ := Aside0.mk (blk_below (bk_ BK266.out) hb)
               have n9_ := Aside0.mk (blk_below (bk_ BK272.out) hb)
               have n10_ := Aside0.mk (blk_below (bk_ BK279.out) hb)
               have n11_ := Aside0.mk (blk_below (bk_ BK317.out) hb)
               have n12_ := Aside0.mk (below_step (bq_) hb)
               clear HO_261001 HO_267001 HO_273001 HO_280001 BK240 BK241 BK260 BK266 BK272 BK279 BK317 HB
               have HO_261001 := n0_
               have HO_267001 := n1_
               have HO_273001 := n2_
               have HO_280001 := n3_
               have HO304 := n4_
               have BK240 := n5_
               have BK241 := n6_
               have BK260 := n7_
               have BK266 := n8_
               have BK272 := n9_
               have BK279 := n10_
               have BK317 := n11_
               have HB := n12_
               clear n0_ n1_ n2_ n3_ n4_ n5_ n6_ n7_ n8_ n9_ n10_ n11_ n12_
               (try clear hb)
               (try clear hb2)
               (try clear hk)
               (try clear hi)
               (try clear ho0)
               refine hK.out _ _ ⟨(blk_cell BK240.out 0).trans rfl, (blk_cell BK240.out 1).trans rfl, (blk_cell BK240.out 2).trans rfl, (blk_cell BK241.out 0).trans rfl, (blk_cell BK241.out 1).trans rfl, (blk_cell BK241.out 2).trans rfl⟩ (fun hHeld => ?_)
               clear hK K
               refine norm_ (a' := ?_) ?_ ?_
               rotate_left
               ·show Act.put _ (some 96) _ = _
                simp only [Act.put, List.setIfInBounds_toArray, List.set_cons_zero, List.set_cons_succ, i64_w, i32_w]
                rfl
               refine one_ (i := 3) (N := some 98) #[true, true, true, true, false, false, false, false, true, false, false] rfl rfl (one_of HT_.out (by kernel_rfl)) (by decide) (fun K hK => ?_)
               refine goes_ Try.func14 (by kernel_rfl) rfl #[.agg #[.int .i64 a1_0, .slice A1_1 l1_1.length c1_1, .int .i64 a1_2]] (by rfl) rfl rfl (by (try simp only [List.map_toArray, List.map_cons, List.map_nil]); first | done | rfl | (simp only [List.length_drop, List.length_take]; rfl)) ?_
               with_reducible refine (laws_toDiagram.calls kj96 a1_0 _ _ l1_1 a1_2 t306 t307 t310 _ ?side1 ?side2 A140.out).mono ?_
               (case side1 => repeat (first | exact (Kd.C_below HR1_1.out HB.out) | (with_reducible refine Kd.C_alloc ?_ _) | (with_reducible refine Kd.C_drewN ?_ _) | (with_reducible refine Kd.C_drew ?_)))
               (case side2 => exact HC1_1.out)
               rintro e w155 ⟨v308, rfl, ho0, hb⟩
               refine ⟨_, rfl, ?_⟩
               have n0_ := Aside0.mk (Kd.R_elder' (rq_ HO_261001.out) (Kd.R_base ho0) hb)
               have n1_ := Aside0.mk (Kd.R_elder' (rq_ HO_267001.out) (Kd.R_base ho0) hb)
               have n2_ := Aside0.mk (Kd.R_elder' (rq_ HO_273001.out) (Kd.R_base ho0) hb)
               have n3_ := Aside0.mk (Kd.R_elder' (rq_ HO_280001.out) (Kd.R_base ho0) hb)
               have n4_ := Aside0.mk (Kd.R_elder' (rq_ HO304.out) (Kd.R_base ho0) hb)
               have n5_ := Aside0.mk (Kd.R_lower (Kd.R_new' (Kd.R_new' (Kd.R_new' (Kd.R_new' (Kd.R_new' ho0 (Kd.R_lt (rq_ HO_261001.out))) (Kd.R_lt (rq_ HO_267001.out))) (Kd.R_lt (rq_ HO_273001.out))) (Kd.R_lt (rq_ HO_280001.out))) (Kd.R_lt (rq_ HO304.out))) (below_size (bq_)))
               have n6_ := Aside0.mk (blk_below (bk_ BK240.out) hb)
               have n7_ := Aside0.mk (blk_below (bk_ BK241.out) hb)
               have n8_ := Aside0.mk (blk_below (bk_ BK260.out) hb)
               have n9_ := Aside0.mk (blk_below (bk_ BK266.out) hb)
               have n10_ := Aside0.mk (blk_below (bk_ BK272.out) hb)
               have n11_ := Aside0.mk (blk_below (bk_ BK279.out) hb)
               have n12_ := Aside0.mk (blk_below (bk_ BK317.out) hb)
               have n13_ := Aside0.mk (below_step (bq_) hb)
               clear HO_261001 HO_267001 HO_273001 HO_280001 HO304 BK240 BK241 BK260 BK266 BK272 BK279 BK317 HB
               have HO_261001 := n0_
               have HO_267001 := n1_
               have HO_273001 := n2_
               have HO_280001 := n3_
               have HO304 := n4_
               have HO309 := n5_
               have BK240 := n6_
               have BK241 := n7_
               have BK260 := n8_
               have BK266 := n9_
               have BK272 := n10_
               have BK279 := n11_
               have BK317 := n12_
               have HB := n13_
               clear n0_ n1_ n2_ n3_ n4_ n5_ n6_ n7_ n8_ n9_ n10_ n11_ n12_ n13_
               (try clear hb)
               (try clear hb2)
               (try clear hk)
               (try clear hi)
               (try clear ho0)
               obtain ⟨Ao156, co156, eo156⟩ := Kd.R_slice HO304.out
               (first | subst eo156 | (injection eo156 with f1_ f2_ f3_; have f4_ := f1_.symm; have f5_ := f3_.symm; clear f1_ f2_ f3_; subst f4_; subst f5_))
               obtain ⟨Ao157, co157, eo157⟩ := Kd.R_slice HO309.out
               (first | subst eo157 | (injection eo157 with f1_ f2_ f3_; have f4_ := f1_.symm; have f5_ := f3_.symm; clear f1_ f2_ f3_; subst f4_; subst f5_))
               refine hK.out _ _ ⟨(blk_cell BK240.out 0).trans rfl, (blk_cell BK240.out 1).trans rfl, (blk_cell BK240.out 2).trans rfl, (blk_cell BK241.out 0).trans rfl, (blk_cell BK241.out 1).trans rfl, (blk_cell BK241.out 2).trans rfl⟩ (fun hHeld => ?_)
               clear hK K
               refine norm_ (a' := ?_) ?_ ?_
               rotate_left
               ·show Act.put _ (some 98) _ = _
                simp only [Act.put, List.setIfInBounds_toArray, List.set_cons_zero, List.set_cons_succ, i64_w, i32_w]
                rfl
               refine one_ (i := 4) (N := some 99) #[true, true, true, true, true, false, false, false, true, false, false] rfl rfl (one_of HT_.out (by kernel_rfl)) (by decide) (fun K hK => ?_)
               refine goes_ Try.func30 (by kernel_rfl) rfl #[.agg #[.int .i64 t301, .slice Ao156 t302.length co156, .int .i64 t305], .agg #[.int .i64 t306, .slice Ao157 t307.length co157, .int .i64 t310]] (by rfl) rfl rfl (by (try simp only [List.map_toArray, List.map_cons, List.map_nil]); first | done | rfl | (simp only [List.length_drop, List.length_take]; rfl)) ?_
               with_reducible refine (impl_BothOf.calls kj96 t301 _ _ t302 t305 t306 _ _ t307 t310 t311 t312 t315 t316 _ ?side1 ?side2 ?side3 ?side4 A141.out).mono ?_
               (case side1 => repeat (first | exact (Kd.R_reads' HO304.out).2.2 | (with_reducible refine Kd.C_alloc ?_ _) | (with_reducible refine Kd.C_drewN ?_ _) | (with_reducible refine Kd.C_drew ?_)))
               (case side2 => exact (Kd.R_reads' HO304.out).2.1)
               (case side3 => repeat (first | exact (Kd.R_reads' HO309.out).2.2 | (with_reducible refine Kd.C_alloc ?_ _) | (with_reducible refine Kd.C_drewN ?_ _) | (with_reducible refine Kd.C_drew ?_)))
               (case side4 => exact (Kd.R_reads' HO309.out).2.1)
               rintro e w158 ⟨v313, rfl, ho0, hb⟩
               refine ⟨_, rfl, ?_⟩
               have n0_ := Aside0.mk (Kd.R_elder' (rq_ HO_261001.out) (Kd.R_base ho0) hb)
               have n1_ := Aside0.mk (Kd.R_elder' (rq_ HO_267001.out) (Kd.R_base ho0) hb)
               have n2_ := Aside0.mk (Kd.R_elder' (rq_ HO_273001.out) (Kd.R_base ho0) hb)
               have n3_ := Aside0.mk (Kd.R_elder' (rq_ HO_280001.out) (Kd.R_base ho0) hb)
               have n4_ := Aside0.mk (Kd.R_elder' (rq_ HO304.out) (Kd.R_base ho0) hb)
               have n5_ := Aside0.mk (Kd.R_elder' (rq_ HO309.out) (Kd.R_base ho0) hb)
               have n6_ := Aside0.mk (Kd.R_lower (Kd.R_new' (Kd.R_new' (Kd.R_new' (Kd.R_new' (Kd.R_new' (Kd.R_new' ho0 (Kd.R_lt (rq_ HO_261001.out))) (Kd.R_lt (rq_ HO_267001.out))) (Kd.R_lt (rq_ HO_273001.out))) (Kd.R_lt (rq_ HO_280001.out))) (Kd.R_lt (rq_ HO304.out))) (Kd.R_lt (rq_ HO309.out))) (below_size (bq_)))
               have n7_ := Aside0.mk (blk_below (bk_ BK240.out) hb)
               have n8_ := Aside0.mk (blk_below (bk_ BK241.out) hb)
               have n9_ := Aside0.mk (blk_below (bk_ BK260.out) hb)
               have n10_ := Aside0.mk (blk_below (bk_ BK266.out) hb)
               have n11_ := Aside0.mk (blk_below (bk_ BK272.out) hb)
               have n12_ := Aside0.mk (blk_below (bk_ BK279.out) hb)
               have n13_ := Aside0.mk (blk_below (bk_ BK317.out) hb)
               have n14_ := Aside0.mk (below_step (bq_) hb)
               clear HO_261001 HO_267001 HO_273001 HO_280001 HO304 HO309 BK240 BK241 BK260 BK266 BK272 BK279 BK317 HB
               have HO_261001 := n0_
               have HO_267001 := n1_
               have HO_273001 := n2_
               have HO_280001 := n3_
               have HO304 := n4_
               have HO309 := n5_
               have HO314 := n6_
               have BK240 := n7_
               have BK241 := n8_
               have BK260 := n9_
               have BK266 := n10_
               have BK272 := n11_
               have BK279 := n12_
               have BK317 := n13_
               have HB := n14_
               clear n0_ n1_ n2_ n3_ n4_ n5_ n6_ n7_ n8_ n9_ n10_ n11_ n12_ n13_ n14_
               (try clear hb)
               (try clear hb2)
               (try clear hk)
               (try clear hi)
               (try clear ho0)
               refine hK.out _ _ ⟨(blk_cell BK240.out 0).trans rfl, (blk_cell BK240.out 1).trans rfl, (blk_cell BK240.out 2).trans rfl, (blk_cell BK241.out 0).trans rfl, (blk_cell BK241.out 1).trans rfl, (blk_cell BK241.out 2).trans rfl⟩ (fun hHeld => ?_)
               clear hK K
               refine norm_ (a' := ?_) ?_ ?_
               rotate_left
               ·show Act.put _ (some 99) _ = _
                simp only [Act.put, List.setIfInBounds_toArray, List.set_cons_zero, List.set_cons_succ, i64_w, i32_w]
                rfl
               refine pure_ (i := 5) (N := some 94) (v := ?_) (a' := ?_) #[true, true, true, true, true, true, false, false, true, false, false] rfl rfl (any_of HT_.out (by kernel_rfl)) (fun _ _ _ h => h) (Or.inl ⟨by rfl, ?_⟩) ?_ ?_
               rotate_left
               ·intro w'
                go_simp
                with_reducible rfl
               rotate_left
               ·simp only [Act.put, List.setIfInBounds_toArray, List.set_cons_zero, List.set_cons_succ, i64_w, i32_w]
                rfl
               refine pure_ (i := 6) (N := some 100) (v := ?_) (a' := ?_) #[true, true, true, true, true, true, true, false, true, false, false] rfl rfl (any_of HT_.out (by kernel_rfl)) (fun _ _ _ h => h) (Or.inl ⟨by rfl, ?_⟩) ?_ ?_
               rotate_left
               ·intro w'
                go_simp
                with_reducible rfl
               rotate_left
               ·simp only [Act.put, List.setIfInBounds_toArray, List.set_cons_zero, List.set_cons_succ, i64_w, i32_w]
                rfl
               refine pure_ (i := 7) (N := some 101) (v := ?_) (a' := ?_) #[true, true, true, true, true, true, true, true, true, false, false] rfl rfl (any_of HT_.out (by kernel_rfl)) (fun _ _ _ h => h) (Or.inl ⟨by rfl, ?_⟩) ?_ ?_
               rotate_left
               ·intro w'
                go_simp
                with_reducible rfl
               rotate_left
               ·simp only [Act.put, List.setIfInBounds_toArray, List.set_cons_zero, List.set_cons_succ, i64_w, i32_w]
                rfl
               exact norm_ (by simp only [putAll, Act.put, List.setIfInBounds_toArray, List.set_cons_zero, List.set_cons_succ]) (hCont (.slice Ao156 t302.length co156, .slice Ao157 t307.length co157, v313, gb317) _ ⟨hHeld, (rq_ (Kd.R_mono HO304.out (fun _ hk => ⟨hk.1.2, ⟨hk.2, ⟨hk.1.1.1.1.1.2, ⟨hk.1.1.1.1.2, ⟨hk.1.1.1.2, hk.1.1.2⟩⟩⟩⟩⟩))), (rq_ (Kd.R_mono HO309.out (fun _ hk => ⟨hk.1.2, ⟨hk.2, ⟨hk.1.1.1.1.1.2, ⟨hk.1.1.1.1.2, ⟨hk.1.1.1.2, hk.1.1.2⟩⟩⟩⟩⟩))), (rq_ (Kd.R_mono HO314.out (fun _ hk => ⟨hk.1.2, ⟨hk.2, ⟨hk.1.1.1.1.1.2, ⟨hk.1.1.1.1.2, ⟨hk.1.1.1.2, hk.1.1.2⟩⟩⟩⟩⟩))), (rq_ (Kd.R_mono HO_261001.out (fun _ hk => ⟨hk.1.1.2, ⟨hk.1.2, ⟨hk.2, ⟨hk.1.1.1.1, ⟨hk.1.1.1.2.1, hk.1.1.1.2.2⟩⟩⟩⟩⟩))), (rq_ (Kd.R_mono HO_267001.out (fun _ hk => ⟨hk.1.1.2, ⟨hk.1.2, ⟨hk.2, ⟨hk.1.1.1.1, ⟨hk.1.1.1.2.1, hk.1.1.1.2.2⟩⟩⟩⟩⟩))), (rq_ (Kd.R_mono HO_273001.out (fun _ hk => ⟨hk.1.1.2, ⟨hk.1.2, ⟨hk.2, ⟨hk.1.1.1.1, ⟨hk.1.1.1.2.1, hk.1.1.1.2.2⟩⟩⟩⟩⟩))), (rq_ (Kd.R_mono HO_280001.out (fun _ hk => ⟨hk.1.1.2, ⟨hk.1.2, ⟨hk.2, ⟨hk.1.1.1.1, ⟨hk.1.1.1.2.1, hk.1.1.1.2.2⟩⟩⟩⟩⟩))), (bk_ BK240.out), (bk_ BK241.out), (bk_ BK260.out), (bk_ BK266.out), (bk_ BK272.out), (bk_ BK279.out), (bk_ BK317.out), GW317.out, GE317.out, NB240_317.out, NB317_240.out, NB241_317.out, NB317_241.out, NB260_317.out, NB317_260.out, NB266_317.out, NB317_266.out, NB272_317.out, NB317_272.out, NB279_317.out, NB317_279.out, (bq_)⟩)
             rintro ⟨v303, v308, v313, gb317⟩ w159 ⟨hS_, h0_, h1_, h2_, h3_, h4_, h5_, h6_, h7_, h8_, h9_, h10_, h11_, h12_, h13_, h14_, h15_, h16_, h17_, h18_, h19_, h20_, h21_, h22_, h23_, h24_, h25_, h26_, h27_, h28_⟩
             have n0_ : Aside0 (Kd.R k75 75 w159 w.heap.size (fun k_ => some k_ ≠ (v308 : Value).ownBlock ∧ some k_ ≠ (v313 : Value).ownBlock ∧ some k_ ≠ (.slice Ao42 t255.length co42 : Value).ownBlock ∧ some k_ ≠ (.slice Ao53 t294.length co53 : Value).ownBlock ∧ some k_ ≠ (.slice Ao63 t296.length co63 : Value).ownBlock ∧ some k_ ≠ (.slice Ao73 t274.length co73 : Value).ownBlock) v303 t302) := ⟨h0_⟩
             have n1_ : Aside0 (Kd.R k75 75 w159 w.heap.size (fun k_ => some k_ ≠ (v303 : Value).ownBlock ∧ some k_ ≠ (v313 : Value).ownBlock ∧ some k_ ≠ (.slice Ao42 t255.length co42 : Value).ownBlock ∧ some k_ ≠ (.slice Ao53 t294.length co53 : Value).ownBlock ∧ some k_ ≠ (.slice Ao63 t296.length co63 : Value).ownBlock ∧ some k_ ≠ (.slice Ao73 t274.length co73 : Value).ownBlock) v308 t307) := ⟨h1_⟩
             have n2_ : Aside0 (Kd.R k75 75 w159 w.heap.size (fun k_ => some k_ ≠ (v303 : Value).ownBlock ∧ some k_ ≠ (v308 : Value).ownBlock ∧ some k_ ≠ (.slice Ao42 t255.length co42 : Value).ownBlock ∧ some k_ ≠ (.slice Ao53 t294.length co53 : Value).ownBlock ∧ some k_ ≠ (.slice Ao63 t296.length co63 : Value).ownBlock ∧ some k_ ≠ (.slice Ao73 t274.length co73 : Value).ownBlock) v313 t312) := ⟨h2_⟩
             have n3_ : Aside0 (Kd.R k75 75 w159 w.heap.size (fun k_ => some k_ ≠ (v303 : Value).ownBlock ∧ some k_ ≠ (v308 : Value).ownBlock ∧ some k_ ≠ (v313 : Value).ownBlock ∧ some k_ ≠ (.slice Ao53 t294.length co53 : Value).ownBlock ∧ some k_ ≠ (.slice Ao63 t296.length co63 : Value).ownBlock ∧ some k_ ≠ (.slice Ao73 t274.length co73 : Value).ownBlock) (.slice Ao42 t255.length co42) t255) := ⟨h3_⟩
             have n4_ : Aside0 (Kd.R k75 75 w159 w.heap.size (fun k_ => some k_ ≠ (v303 : Value).ownBlock ∧ some k_ ≠ (v308 : Value).ownBlock ∧ some k_ ≠ (v313 : Value).ownBlock ∧ some k_ ≠ (.slice Ao42 t255.length co42 : Value).ownBlock ∧ some k_ ≠ (.slice Ao63 t296.length co63 : Value).ownBlock ∧ some k_ ≠ (.slice Ao73 t274.length co73 : Value).ownBlock) (.slice Ao53 t294.length co53) t294) := ⟨h4_⟩
             have n5_ : Aside0 (Kd.R k75 75 w159 w.heap.size (fun k_ => some k_ ≠ (v303 : Value).ownBlock ∧ some k_ ≠ (v308 : Value).ownBlock ∧ some k_ ≠ (v313 : Value).ownBlock ∧ some k_ ≠ (.slice Ao42 t255.length co42 : Value).ownBlock ∧ some k_ ≠ (.slice Ao53 t294.length co53 : Value).ownBlock ∧ some k_ ≠ (.slice Ao73 t274.length co73 : Value).ownBlock) (.slice Ao63 t296.length co63) t296) := ⟨h5_⟩
             have n6_ : Aside0 (Kd.R k75 75 w159 w.heap.size (fun k_ => some k_ ≠ (v303 : Value).ownBlock ∧ some k_ ≠ (v308 : Value).ownBlock ∧ some k_ ≠ (v313 : Value).ownBlock ∧ some k_ ≠ (.slice Ao42 t255.length co42 : Value).ownBlock ∧ some k_ ≠ (.slice Ao53 t294.length co53 : Value).ownBlock ∧ some k_ ≠ (.slice Ao63 t296.length co63 : Value).ownBlock) (.slice Ao73 t274.length co73) t299) := ⟨h6_⟩
             have n7_ : Aside0 (w159.heap[gb240]? = some (.cells #[.int .i64 a0_0, .slice A0_1 l0_1.length c0_1, .int .i64 a0_2] 24 (0, 0))) := ⟨h7_⟩
             have n8_ : Aside0 (w159.heap[gb241]? = some (.cells #[.int .i64 a1_0, .slice A1_1 l1_1.length c1_1, .int .i64 a1_2] 24 (0, 0))) := ⟨h8_⟩
             have n9_ : Aside0 (w159.heap[gb260]? = some (.cells #[.int .i64 t254, .slice Ao42 t255.length co42, .int .i64 t258] 30 (0, 0))) := ⟨h9_⟩
             have n10_ : Aside0 (w159.heap[gb266]? = some (.cells #[.int .i64 t261, .slice Ao53 t294.length co53, .int .i64 t265] 30 (0, 0))) := ⟨h10_⟩
             have n11_ : Aside0 (w159.heap[gb272]? = some (.cells #[.int .i64 t267, .slice Ao63 t296.length co63, .int .i64 t271] 30 (0, 0))) := ⟨h11_⟩
             have n12_ : Aside0 (w159.heap[gb279]? = some (.cells #[.int .i64 t273, .slice Ao73 t274.length co73, .int .i64 t277] 30 (0, 0))) := ⟨h12_⟩
             have n13_ : Aside0 (w159.heap[gb317]? = some (.cells #[.int .i64 0, .slice none 0 0, .int .i64 0] 30 (0, 0))) := ⟨h13_⟩
             have n14_ : Aside0 (w.heap.size ≤ gb317) := ⟨h14_⟩
             have n15_ : Aside0 (w.heap.size ≤ gb317) := ⟨h15_⟩
             have n16_ : Aside0 (gb240 ≠ gb317) := ⟨h16_⟩
             have n17_ : Aside0 (gb317 ≠ gb240) := ⟨h17_⟩
             have n18_ : Aside0 (gb241 ≠ gb317) := ⟨h18_⟩
             have n19_ : Aside0 (gb317 ≠ gb241) := ⟨h19_⟩
             have n20_ : Aside0 (gb260 ≠ gb317) := ⟨h20_⟩
             have n21_ : Aside0 (gb317 ≠ gb260) := ⟨h21_⟩
             have n22_ : Aside0 (gb266 ≠ gb317) := ⟨h22_⟩
             have n23_ : Aside0 (gb317 ≠ gb266) := ⟨h23_⟩
             have n24_ : Aside0 (gb272 ≠ gb317) := ⟨h24_⟩
             have n25_ : Aside0 (gb317 ≠ gb272) := ⟨h25_⟩
             have n26_ : Aside0 (gb279 ≠ gb317) := ⟨h26_⟩
             have n27_ : Aside0 (gb317 ≠ gb279) := ⟨h27_⟩
             have n28_ : Aside0 (Below w.heap.size w w159) := ⟨h28_⟩
             clear HO_261001 HO_267001 HO_273001 HO_280001 BK240 BK241 BK260 BK266 BK272 BK279 HB h0_ h1_ h2_ h3_ h4_ h5_ h6_ h7_ h8_ h9_ h10_ h11_ h12_ h13_ h14_ h15_ h16_ h17_ h18_ h19_ h20_ h21_ h22_ h23_ h24_ h25_ h26_ h27_ h28_
             have HO304 := n0_
             have HO309 := n1_
             have HO314 := n2_
             have HO_261001 := n3_
             have HO_267001 := n4_
             have HO_273001 := n5_
             have HO_280001 := n6_
             have BK240 := n7_
             have BK241 := n8_
             have BK260 := n9_
             have BK266 := n10_
             have BK272 := n11_
             have BK279 := n12_
             have BK317 := n13_
             have GW317 := n14_
             have GE317 := n15_
             have NB240_317 := n16_
             have NB317_240 := n17_
             have NB241_317 := n18_
             have NB317_241 := n19_
             have NB260_317 := n20_
             have NB317_260 := n21_
             have NB266_317 := n22_
             have NB317_266 := n23_
             have NB272_317 := n24_
             have NB317_272 := n25_
             have NB279_317 := n26_
             have NB317_279 := n27_
             have HB := n28_
             clear n0_ n1_ n2_ n3_ n4_ n5_ n6_ n7_ n8_ n9_ n10_ n11_ n12_ n13_ n14_ n15_ n16_ n17_ n18_ n19_ n20_ n21_ n22_ n23_ n24_ n25_ n26_ n27_ n28_
             have hHeld : w159.cell? ⟨gb240, 0, none⟩ = some (.int .i64 a0_0) ∧ w159.cell? ⟨gb240, 1, none⟩ = some (.slice A0_1 l0_1.length c0_1) ∧ w159.cell? ⟨gb240, 2, none⟩ = some (.int .i64 a0_2) ∧ w159.cell? ⟨gb241, 0, none⟩ = some (.int .i64 a1_0) ∧ w159.cell? ⟨gb241, 1, none⟩ = some (.slice A1_1 l1_1.length c1_1) ∧ w159.cell? ⟨gb241, 2, none⟩ = some (.int .i64 a1_2) := hS_
             obtain ⟨Ao161, co161, eo161⟩ := Kd.R_slice HO314.out
             (first | subst eo161 | (injection eo161 with f1_ f2_ f3_; have f4_ := f1_.symm; have f5_ := f3_.symm; clear f1_ f2_ f3_; subst f4_; subst f5_))
             refine norm_ (a' := ?_) ?_ ?_
             rotate_left
             ·simp only [putAll, Act.put, List.setIfInBounds_toArray, List.set_cons_zero, List.set_cons_succ]
              rfl
             refine one_ (i := 9) (N := none) #[true, true, true, true, true, true, true, true, true, true, false] rfl rfl (one_of HT_.out (by kernel_rfl)) (by decide) (fun K hK => ?_)
             have hs160 : w159.cell? ⟨gb317, 0, none⟩ = some (.int .i64 0) := (blk_cell BK317.out 0).trans rfl
             have hfs160 := blk_frozen BK317.out 0
             have hns160_0 := NB240_317.out
             have hns160_1 := NB241_317.out
             have hns160_2 := NB260_317.out
             have hns160_3 := NB266_317.out
             have hns160_4 := NB272_317.out
             have hns160_5 := NB279_317.out
             have hms160_0 := NB317_240.out
             have hms160_1 := NB317_241.out
             have hms160_2 := NB317_260.out
             have hms160_3 := NB317_266.out
             have hms160_4 := NB317_272.out
             have hms160_5 := NB317_279.out
             have hs162 : w159.cell? ⟨gb317, 1, none⟩ = some (.slice none 0 0) := (blk_cell BK317.out 1).trans rfl
             have hfs162 := blk_frozen BK317.out 1
             have hns162_0 := NB240_317.out
             have hns162_1 := NB241_317.out
             have hns162_2 := NB260_317.out
             have hns162_3 := NB266_317.out
             have hns162_4 := NB272_317.out
             have hns162_5 := NB279_317.out
             have hms162_0 := NB317_240.out
             have hms162_1 := NB317_241.out
             have hms162_2 := NB317_260.out
             have hms162_3 := NB317_266.out
             have hms162_4 := NB317_272.out
             have hms162_5 := NB317_279.out
             have hs163 : w159.cell? ⟨gb317, 2, none⟩ = some (.int .i64 0) := (blk_cell BK317.out 2).trans rfl
             have hfs163 := blk_frozen BK317.out 2
             have hns163_0 := NB240_317.out
             have hns163_1 := NB241_317.out
             have hns163_2 := NB260_317.out
             have hns163_3 := NB266_317.out
             have hns163_4 := NB272_317.out
             have hns163_5 := NB279_317.out
             have hms163_0 := NB317_240.out
             have hms163_1 := NB317_241.out
             have hms163_2 := NB317_260.out
             have hms163_3 := NB317_266.out
             have hms163_4 := NB317_272.out
             have hms163_5 := NB317_279.out
             refine skip_ (w1 := ?_) (by rfl) rfl ?_ ?_
             rotate_left
             ·go_simp
              rfl
             refine hK.out _ _ ⟨((cell_far (p := ⟨gb317, _, none⟩) NB240_317.out _).trans (((cell_far (p := ⟨gb317, _, none⟩) NB240_317.out _).trans (((cell_far (p := ⟨gb317, _, none⟩) NB240_317.out _).trans (hHeld.1)))))), ((cell_far (p := ⟨gb317, _, none⟩) NB240_317.out _).trans (((cell_far (p := ⟨gb317, _, none⟩) NB240_317.out _).trans (((cell_far (p := ⟨gb317, _, none⟩) NB240_317.out _).trans (hHeld.2.1)))))), ((cell_far (p := ⟨gb317, _, none⟩) NB240_317.out _).trans (((cell_far (p := ⟨gb317, _, none⟩) NB240_317.out _).trans (((cell_far (p := ⟨gb317, _, none⟩) NB240_317.out _).trans (hHeld.2.2.1)))))), ((cell_far (p := ⟨gb317, _, none⟩) NB241_317.out _).trans (((cell_far (p := ⟨gb317, _, none⟩) NB241_317.out _).trans (((cell_far (p := ⟨gb317, _, none⟩) NB241_317.out _).trans (hHeld.2.2.2.1)))))), ((cell_far (p := ⟨gb317, _, none⟩) NB241_317.out _).trans (((cell_far (p := ⟨gb317, _, none⟩) NB241_317.out _).trans (((cell_far (p := ⟨gb317, _, none⟩) NB241_317.out _).trans (hHeld.2.2.2.2.1)))))), ((cell_far (p := ⟨gb317, _, none⟩) NB241_317.out _).trans (((cell_far (p := ⟨gb317, _, none⟩) NB241_317.out _).trans (((cell_far (p := ⟨gb317, _, none⟩) NB241_317.out _).trans (hHeld.2.2.2.2.2))))))⟩ (fun hHeld => ?_)
             clear hK K
             refine pure_ (i := 10) (N := some 16) (v := ?_) (a' := ?_) #[true, true, true, true, true, true, true, true, true, true, true] rfl rfl (any_of HT_.out (by kernel_rfl)) (fun _ _ _ h => h) (Or.inl ⟨by rfl, ?_⟩) ?_ ?_
             rotate_left
             ·intro w'
              go_simp
              with_reducible rfl
             rotate_left
             ·simp only [Act.put, List.setIfInBounds_toArray, List.set_cons_zero, List.set_cons_succ, i64_w, i32_w]
              rfl
             refine done_ (done_of HT_.out (by kernel_rfl)) ?_
             go_upto_region 32 with (fail)
             go_cut [110] (fun v110 wc => ∃ (kq : Nat) (x110_141 : Bool), v110 = .bool x110_141 ∧ Aside0 (laws_FnExactBothOf.j2 kq t298 x110_141 t273 t299 t277 = some r) ∧ Aside0 (kq ≤ kj96) ∧ Aside0 (Kd.R k75 75 wc w.heap.size (fun k_ => some k_ ≠ ((.slice Ao53 t294.length co53) : Value).ownBlock ∧ some k_ ≠ ((.slice Ao63 t296.length co63) : Value).ownBlock ∧ some k_ ≠ ((.slice Ao73 t274.length co73) : Value).ownBlock ∧ some k_ ≠ ((.slice Ao161 t312.length co161) : Value).ownBlock) (.slice Ao42 t255.length co42) t255) ∧ Aside0 (Kd.R k75 75 wc w.heap.size (fun k_ => some k_ ≠ ((.slice Ao42 t255.length co42) : Value).ownBlock ∧ some k_ ≠ ((.slice Ao63 t296.length co63) : Value).ownBlock ∧ some k_ ≠ ((.slice Ao73 t274.length co73) : Value).ownBlock ∧ some k_ ≠ ((.slice Ao161 t312.length co161) : Value).ownBlock) (.slice Ao53 t294.length co53) t294) ∧ Aside0 (Kd.R k75 75 wc w.heap.size (fun k_ => some k_ ≠ ((.slice Ao42 t255.length co42) : Value).ownBlock ∧ some k_ ≠ ((.slice Ao53 t294.length co53) : Value).ownBlock ∧ some k_ ≠ ((.slice Ao73 t274.length co73) : Value).ownBlock ∧ some k_ ≠ ((.slice Ao161 t312.length co161) : Value).ownBlock) (.slice Ao63 t296.length co63) t296) ∧ Aside0 (Kd.R k75 75 wc w.heap.size (fun k_ => some k_ ≠ ((.slice Ao42 t255.length co42) : Value).ownBlock ∧ some k_ ≠ ((.slice Ao53 t294.length co53) : Value).ownBlock ∧ some k_ ≠ ((.slice Ao63 t296.length co63) : Value).ownBlock ∧ some k_ ≠ ((.slice Ao161 t312.length co161) : Value).ownBlock) (.slice Ao73 t274.length co73) t299) ∧ Aside0 (Kd.R k75 75 wc w.heap.size (fun k_ => some k_ ≠ ((.slice Ao42 t255.length co42) : Value).ownBlock ∧ some k_ ≠ ((.slice Ao53 t294.length co53) : Value).ownBlock ∧ some k_ ≠ ((.slice Ao63 t296.length co63) : Value).ownBlock ∧ some k_ ≠ ((.slice Ao73 t274.length co73) : Value).ownBlock) (.slice Ao161 t312.length co161) t312) ∧ Aside0 (wc.heap[gb240]? = some (.cells #[.int .i64 a0_0, (.slice A0_1 l0_1.length c0_1), .int .i64 a0_2] 24 (0, 0))) ∧ Aside0 (wc.heap[gb241]? = some (.cells #[.int .i64 a1_0, (.slice A1_1 l1_1.length c1_1), .int .i64 a1_2] 24 (0, 0))) ∧ Aside0 (wc.heap[gb260]? = some (.cells #[.int .i64 t254, (.slice Ao42 t255.length co42), .int .i64 t258] 30 (0, 0))) ∧ Aside0 (wc.heap[gb266]? = some (.cells #[.int .i64 t261, (.slice Ao53 t294.length co53), .int .i64 t265] 30 (0, 0))) ∧ Aside0 (wc.heap[gb272]? = some (.cells #[.int .i64 t267, (.slice Ao63 t296.length co63), .int .i64 t271] 30 (0, 0))) ∧ Aside0 (wc.heap[gb279]? = some (.cells #[.int .i64 t273, (.slice Ao73 t274.length co73), .int .i64 t277] 30 (0, 0))) ∧ Aside0 (wc.heap[gb317]? = some (.cells #[.int .i64 t311, (.slice Ao161 t312.length co161), .int .i64 t315] 30 (0, 0))) ∧ Aside0 (Below w.heap.size w wc))
             case first =>
              have H := HC142.out
              clear HC142
              replace H := Option.bind_eq_some_iff.mp H
              obtain ⟨t318, A1640, H⟩ := H
              replace H : (if t318 = true then (laws_FnExactBothOf.j2 kj96 t298 (t316 != t259) t273 t299 t277) else (laws_FnExactBothOf.j2 kj96 t298 true t273 t299 t277)) = some r := H
              have A164 := Aside0.mk A1640
              clear A1640
              by_cases c165 : t318 = true
              ·subst c165
               have H1 : (laws_FnExactBothOf.j2 kj96 t298 (t316 != t259) t273 t299 t277) = some r := by rw [if_pos rfl] at H; exact H
               clear H
               have H := H1
               clear H1
               have H' := Aside0.mk H
               clear H
               have hnb166 := NB317_240.out
               have hnc166 := NB240_317.out
               have hnb167 := NB317_241.out
               have hnc167 := NB241_317.out
               have hnb168 := NB317_260.out
               have hnc168 := NB260_317.out
               have hnb169 := NB317_266.out
               have hnc169 := NB266_317.out
               have hnb170 := NB317_272.out
               have hnc170 := NB272_317.out
               have hnb171 := NB317_279.out
               have hnc171 := NB279_317.out
               have hcz172_0 := cq_ BK317.out 0 (.int .i64 0)
               have hcz172_1 := cq_ BK317.out 1 (.slice none 0 0)
               have hcz172_2 := cq_ BK317.out 2 (.int .i64 0)
               have hfz172_0 := blk_frozen BK317.out 0
               have hfz172_1 := blk_frozen BK317.out 1
               have hfz172_2 := blk_frozen BK317.out 2
               have hnb173 := NB260_240.out
               have hnc173 := NB240_260.out
               have hnb174 := NB260_241.out
               have hnc174 := NB241_260.out
               have hnb175 := NB260_266.out
               have hnc175 := NB266_260.out
               have hnb176 := NB260_272.out
               have hnc176 := NB272_260.out
               have hnb177 := NB260_279.out
               have hnc177 := NB279_260.out
               have hcz178_0 := cq_ BK260.out 0 (.int .i64 t254)
               have hcz178_1 := cq_ BK260.out 1 (.slice Ao42 t255.length co42)
               have hcz178_2 := cq_ BK260.out 2 (.int .i64 t258)
               have hfz178_0 := blk_frozen BK260.out 0
               have hfz178_1 := blk_frozen BK260.out 1
               have hfz178_2 := blk_frozen BK260.out 2
               go_wp2_with (first | ((with_reducible refine gate_callee (f := 16) rfl ?_); refine goesL_ (some 104) rfl rfl Try.func16 (by kernel_rfl) rfl #[.agg #[.int .i64 t311, .slice Ao161 t312.length co161, .int .i64 t315], .agg #[.int .i64 t254, .slice Ao42 t255.length co42, .int .i64 t258]] rfl (by (try simp only [List.map_toArray, List.map_cons, List.map_nil]); first | done | rfl | (simp only [List.length_drop, List.length_take]; rfl)) ?_; (with_reducible refine (laws_eqDiagram.calls kj96 t311 _ _ t312 t315 t254 _ _ t255 t258 true _ ?side1 ?side2 ?side3 ?side4 A164.out).mono ?_); (case side1 => refine (Kd.R_reads' (e := 75) (base := w.heap.size) (ok := fun k_ => (some k_ ≠ (v303 : Value).ownBlock ∧ (some k_ ≠ (v308 : Value).ownBlock ∧ (some k_ ≠ (.slice Ao42 t255.length co42 : Value).ownBlock ∧ (some k_ ≠ (.slice Ao53 t294.length co53 : Value).ownBlock ∧ (some k_ ≠ (.slice Ao63 t296.length co63 : Value).ownBlock ∧ some k_ ≠ (.slice Ao73 t274.length co73 : Value).ownBlock)))))) (n := t312.length) (c := co161) ?_).2.2; exact (rq_ ((Kd.R_mono (Kd.R_far (p := ⟨gb317, 2, none⟩) (Kd.R_far (p := ⟨gb317, 1, none⟩) (Kd.R_far (p := ⟨gb317, 0, none⟩) (Kd.R_types HO314.out BK317.out (by decide)) (fun _ hk => hk.2) (.int .i64 t311)) (fun _ hk => hk.2) (.slice Ao161 t312.length co161)) (fun _ hk => hk.2) (.int .i64 t315)) (fun _ h_ => h_.1))))); (case side2 => exact (Kd.R_reads' HO314.out).2.1); (case side3 => refine (Kd.R_reads' (e := 75) (base := w.heap.size) (ok := fun k_ => (some k_ ≠ (v303 : Value).ownBlock ∧ (some k_ ≠ (v308 : Value).ownBlock ∧ (some k_ ≠ (.slice Ao161 t312.length co161 : Value).ownBlock ∧ (some k_ ≠ (.slice Ao53 t294.length co53 : Value).ownBlock ∧ (some k_ ≠ (.slice Ao63 t296.length co63 : Value).ownBlock ∧ some k_ ≠ (.slice Ao73 t274.length co73 : Value).ownBlock)))))) (n := t255.length) (c := co42) ?_).2.2; exact (rq_ ((Kd.R_mono (Kd.R_far (p := ⟨gb317, 2, none⟩) (Kd.R_far (p := ⟨gb317, 1, none⟩) (Kd.R_far (p := ⟨gb317, 0, none⟩) (Kd.R_types HO_261001.out BK317.out (by decide)) (fun _ hk => hk.2) (.int .i64 t311)) (fun _ hk => hk.2) (.slice Ao161 t312.length co161)) (fun _ hk => hk.2) (.int .i64 t315)) (fun _ h_ => h_.1))))); (case side4 => exact (Kd.R_reads' HO_261001.out).2.1); rintro e w179 ⟨rfl, hb⟩; refine ⟨_, rfl, ?_⟩; have n0_ := Aside0.mk (Kd.R_below (rq_ ((Kd.R_mono (Kd.R_far (p := ⟨gb317, 2, none⟩) (Kd.R_far (p := ⟨gb317, 1, none⟩) (Kd.R_far (p := ⟨gb317, 0, none⟩) (Kd.R_types HO_261001.out BK317.out (by decide)) (fun _ hk => hk.2) (.int .i64 t311)) (fun _ hk => hk.2) (.slice Ao161 t312.length co161)) (fun _ hk => hk.2) (.int .i64 t315)) (fun _ h_ => h_.1)))) hb); have n1_ := Aside0.mk (Kd.R_below (rq_ ((Kd.R_mono (Kd.R_far (p := ⟨gb317, 2, none⟩) (Kd.R_far (p := ⟨gb317, 1, none⟩) (Kd.R_far (p := ⟨gb317, 0, none⟩) (Kd.R_types HO_267001.out BK317.out (by decide)) (fun _ hk => hk.2) (.int .i64 t311)) (fun _ hk => hk.2) (.slice Ao161 t312.length co161)) (fun _ hk => hk.2) (.int .i64 t315)) (fun _ h_ => h_.1)))) hb); have n2_ := Aside0.mk (Kd.R_below (rq_ ((Kd.R_mono (Kd.R_far (p := ⟨gb317, 2, none⟩) (Kd.R_far (p := ⟨gb317, 1, none⟩) (Kd.R_far (p := ⟨gb317, 0, none⟩) (Kd.R_types HO_273001.out BK317.out (by decide)) (fun _ hk => hk.2) (.int .i64 t311)) (fun _ hk => hk.2) (.slice Ao161 t312.length co161)) (fun _ hk => hk.2) (.int .i64 t315)) (fun _ h_ => h_.1)))) hb); have n3_ := Aside0.mk (Kd.R_below (rq_ ((Kd.R_mono (Kd.R_far (p := ⟨gb317, 2, none⟩) (Kd.R_far (p := ⟨gb317, 1, none⟩) (Kd.R_far (p := ⟨gb317, 0, none⟩) (Kd.R_types HO_280001.out BK317.out (by decide)) (fun _ hk => hk.2) (.int .i64 t311)) (fun _ hk => hk.2) (.slice Ao161 t312.length co161)) (fun _ hk => hk.2) (.int .i64 t315)) (fun _ h_ => h_.1)))) hb); have n4_ := Aside0.mk (Kd.R_below (rq_ ((Kd.R_mono (Kd.R_far (p := ⟨gb317, 2, none⟩) (Kd.R_far (p := ⟨gb317, 1, none⟩) (Kd.R_far (p := ⟨gb317, 0, none⟩) (Kd.R_types HO304.out BK317.out (by decide)) (fun _ hk => hk.2) (.int .i64 t311)) (fun _ hk => hk.2) (.slice Ao161 t312.length co161)) (fun _ hk => hk.2) (.int .i64 t315)) (fun _ h_ => h_.1)))) hb); have n5_ := Aside0.mk (Kd.R_below (rq_ ((Kd.R_mono (Kd.R_far (p := ⟨gb317, 2, none⟩) (Kd.R_far (p := ⟨gb317, 1, none⟩) (Kd.R_far (p := ⟨gb317, 0, none⟩) (Kd.R_types HO309.out BK317.out (by decide)) (fun _ hk => hk.2) (.int .i64 t311)) (fun _ hk => hk.2) (.slice Ao161 t312.length co161)) (fun _ hk => hk.2) (.int .i64 t315)) (fun _ h_ => h_.1)))) hb); have n6_ := Aside0.mk (Kd.R_below (rq_ ((Kd.R_mono (Kd.R_far (p := ⟨gb317, 2, none⟩) (Kd.R_far (p := ⟨gb317, 1, none⟩) (Kd.R_far (p := ⟨gb317, 0, none⟩) (Kd.R_types HO314.out BK317.out (by decide)) (fun _ hk => hk.2) (.int .i64 t311)) (fun _ hk => hk.2) (.slice Ao161 t312.length co161)) (fun _ hk => hk.2) (.int .i64 t315)) (fun _ h_ => h_.1)))) hb); have n7_ := Aside0.mk (blk_below (g := gb240) (o := .cells #[.int .i64 a0_0, .slice A0_1 l0_1.length c0_1, .int .i64 a0_2] 24 (0, 0)) (by (with_reducible repeat (first | refine blk_drewN ?_ _ | refine blk_drew ?_ | refine blk_alloc ?_ _)); refine blk_far ?_ NB240_317.out _; (with_reducible repeat (first | refine blk_drewN ?_ _ | refine blk_drew ?_ | refine blk_alloc ?_ _)); refine blk_far ?_ NB240_317.out _; (with_reducible repeat (first | refine blk_drewN ?_ _ | refine blk_drew ?_ | refine blk_alloc ?_ _)); refine blk_far ?_ NB240_317.out _; (with_reducible repeat (first | refine blk_drewN ?_ _ | refine blk_drew ?_ | refine blk_alloc ?_ _)); exact BK240.out) hb); have n8_ := Aside0.mk (blk_below (g := gb241) (o := .cells #[.int .i64 a1_0, .slice A1_1 l1_1.length c1_1, .int .i64 a1_2] 24 (0, 0)) (by (with_reducible repeat (first | refine blk_drewN ?_ _ | refine blk_drew ?_ | refine blk_alloc ?_ _)); refine blk_far ?_ NB241_317.out _; (with_reducible repeat (first | refine blk_drewN ?_ _ | refine blk_drew ?_ | refine blk_alloc ?_ _)); refine blk_far ?_ NB241_317.out _; (with_reducible repeat (first | refine blk_drewN ?_ _ | refine blk_drew ?_ | refine blk_alloc ?_ _)); refine blk_far ?_ NB241_317.out _; (with_reducible repeat (first | refine blk_drewN ?_ _ | refine blk_drew ?_ | refine blk_alloc ?_ _)); exact BK241.out) hb); have n9_ := Aside0.mk (blk_below (g := gb260) (o := .cells #[.int .i64 t254, .slice Ao42 t255.length co42, .int .i64 t258] 30 (0, 0)) (by (with_reducible repeat (first | refine blk_drewN ?_ _ | refine blk_drew ?_ | refine blk_alloc ?_ _)); refine blk_far ?_ NB260_317.out _; (with_reducible repeat (first | refine blk_drewN ?_ _ | refine blk_drew ?_ | refine blk_alloc ?_ _)); refine blk_far ?_ NB260_317.out _; (with_reducible repeat (first | refine blk_drewN ?_ _ | refine blk_drew ?_ | refine blk_alloc ?_ _)); refine blk_far ?_ NB260_317.out _; (with_reducible repeat (first | refine blk_drewN ?_ _ | refine blk_drew ?_ | refine blk_alloc ?_ _)); exact BK260.out) hb); have n10_ := Aside0.mk (blk_below (g := gb266) (o := .cells #[.int .i64 t261, .slice Ao53 t294.length co53, .int .i64 t265] 30 (0, 0)) (by (with_reducible repeat (first | refine blk_drewN ?_ _ | refine blk_drew ?_ | refine blk_alloc ?_ _)); refine blk_far ?_ NB266_317.out _; (with_reducible repeat (first | refine blk_drewN ?_ _ | refine blk_drew ?_ | refine blk_alloc ?_ _)); refine blk_far ?_ NB266_317.out _; (with_reducible repeat (first | refine blk_drewN ?_ _ | refine blk_drew ?_ | refine blk_alloc ?_ _)); refine blk_far ?_ NB266_317.out _; (with_reducible repeat (first | refine blk_drewN ?_ _ | refine blk_drew ?_ | refine blk_alloc ?_ _)); exact BK266.out) hb); have n11_ := Aside0.mk (blk_below (g := gb272) (o := .cells #[.int .i64 t267, .slice Ao63 t296.length co63, .int .i64 t271] 30 (0, 0)) (by (with_reducible repeat (first | refine blk_drewN ?_ _ | refine blk_drew ?_ | refine blk_alloc ?_ _)); refine blk_far ?_ NB272_317.out _; (with_reducible repeat (first | refine blk_drewN ?_ _ | refine blk_drew ?_ | refine blk_alloc ?_ _)); refine blk_far ?_ NB272_317.out _; (with_reducible repeat (first | refine blk_drewN ?_ _ | refine blk_drew ?_ | refine blk_alloc ?_ _)); refine blk_far ?_ NB272_317.out _; (with_reducible repeat (first | refine blk_drewN ?_ _ | refine blk_drew ?_ | refine blk_alloc ?_ _)); exact BK272.out) hb); have n12_ := Aside0.mk (blk_below (g := gb279) (o := .cells #[.int .i64 t273, .slice Ao73 t274.length co73, .int .i64 t277] 30 (0, 0)) (by (with_reducible repeat (first | refine blk_drewN ?_ _ | refine blk_drew ?_ | refine blk_alloc ?_ _)); refine blk_far ?_ NB279_317.out _; (with_reducible repeat (first | refine blk_drewN ?_ _ | refine blk_drew ?_ | refine blk_alloc ?_ _)); refine blk_far ?_ NB279_317.out _; (with_reducible repeat (first | refine blk_drewN ?_ _ | refine blk_drew ?_ | refine blk_alloc ?_ _)); refine blk_far ?_ NB279_317.out _; (with_reducible repeat (first | refine blk_drewN ?_ _ | refine blk_drew ?_ | refine blk_alloc ?_ _)); exact BK279.out) hb); have n13_ := Aside0.mk (blk_below (g := gb317) (o := .cells #[.int .i64 t311, .slice Ao161 t312.length co161, .int .i64 t315] 30 (0, 0)) (by (with_reducible repeat (first | refine blk_drewN ?_ _ | refine blk_drew ?_ | refine blk_alloc ?_ _)); refine blk_put (cs := #[.int .i64 t311, .slice Ao161 t312.length co161, .int .i64 0]) ?_ 2 _ rfl; (with_reducible repeat (first | refine blk_drewN ?_ _ | refine blk_drew ?_ | refine blk_alloc ?_ _)); refine blk_put (cs := #[.int .i64 t311, .slice none 0 0, .int .i64 0]) ?_ 1 _ rfl; (with_reducible repeat (first | refine blk_drewN ?_ _ | refine blk_drew ?_ | refine blk_alloc ?_ _)); refine blk_put (cs := #[.int .i64 0, .slice none 0 0, .int .i64 0]) ?_ 0 _ rfl; (with_reducible repeat (first | refine blk_drewN ?_ _ | refine blk_drew ?_ | refine blk_alloc ?_ _)); exact BK317.out) hb); have n14_ := Aside0.mk (below_step (bq_) hb); clear HO_261001; clear HO_267001; clear HO_273001; clear HO_280001; clear HO304; clear HO309; clear HO314; clear BK240; clear BK241; clear BK260; clear BK266; clear BK272; clear BK279; clear BK317; clear HB; have HO_261001 := n0_; have HO_267001 := n1_; have HO_273001 := n2_; have HO_280001 := n3_; have HO304 := n4_; have HO309 := n5_; have HO314 := n6_; have BK240 := n7_; have BK241 := n8_; have BK260 := n9_; have BK266 := n10_; have BK272 := n11_; have BK279 := n12_; have BK317 := n13_; have HB := n14_; clear n0_ n1_ n2_ n3_ n4_ n5_ n6_ n7_ n8_ n9_ n10_ n11_ n12_ n13_ n14_; (try clear hb); (try clear hb2); (try clear hk); (try clear hi)))
               go_meet
               case rel => exact ⟨_, ((t316 != t259)), (by first | rfl | (simp; done) | (simp [*]; done)), H', ⟨by have := HJ24.out; have := HJ96.out; first | omega | exact Nat.le_refl _⟩, ⟨by (try simp only [hl267001_96]); (try simp only [hl273001_96]); (with_reducible repeat (first | apply Kd.R_alloc | apply Kd.R_drewN | apply Kd.R_drew)); exact Kd.R_mono HO_261001.out (fun _ hk => ⟨hk.2.2.2.1, ⟨hk.2.2.2.2.1, ⟨hk.2.2.2.2.2, hk.2.2.1⟩⟩⟩)⟩, ⟨by (try simp only [hl267001_96]); (try simp only [hl273001_96]); (with_reducible repeat (first | apply Kd.R_alloc | apply Kd.R_drewN | apply Kd.R_drew)); exact Kd.R_mono HO_267001.out (fun _ hk => ⟨hk.2.2.2.1, ⟨hk.2.2.2.2.1, ⟨hk.2.2.2.2.2, hk.2.2.1⟩⟩⟩)⟩, ⟨by (try simp only [hl267001_96]); (try simp only [hl273001_96]); (with_reducible repeat (first | apply Kd.R_alloc | apply Kd.R_drewN | apply Kd.R_drew)); exact Kd.R_mono HO_273001.out (fun _ hk => ⟨hk.2.2.2.1, ⟨hk.2.2.2.2.1, ⟨hk.2.2.2.2.2, hk.2.2.1⟩⟩⟩)⟩, ⟨by (try simp only [hl267001_96]); (try simp only [hl273001_96]); (with_reducible repeat (first | apply Kd.R_alloc | apply Kd.R_drewN | apply Kd.R_drew)); exact Kd.R_mono HO_280001.out (fun _ hk => ⟨hk.2.2.2.1, ⟨hk.2.2.2.2.1, ⟨hk.2.2.2.2.2, hk.2.2.1⟩⟩⟩)⟩, ⟨by (try simp only [hl267001_96]); (try simp only [hl273001_96]); (with_reducible repeat (first | apply Kd.R_alloc | apply Kd.R_drewN | apply Kd.R_drew)); exact Kd.R_mono HO314.out (fun _ hk => ⟨hk.2.2.1, ⟨hk.2.2.2.1, ⟨hk.2.2.2.2.1, hk.2.2.2.2.2⟩⟩⟩)⟩, ⟨by (try simp only [hl267001_96]); (try simp only [hl273001_96]); (with_reducible repeat (first | refine blk_drewN ?_ _ | refine blk_drew ?_ | refine blk_alloc ?_ _)); exact BK240.out⟩, ⟨by (try simp only [hl267001_96]); (try simp only [hl273001_96]); (with_reducible repeat (first | refine blk_drewN ?_ _ | refine blk_drew ?_ | refine blk_alloc ?_ _)); exact BK241.out⟩, ⟨by (try simp only [hl267001_96]); (try simp only [hl273001_96]); (with_reducible repeat (first | refine blk_drewN ?_ _ | refine blk_drew ?_ | refine blk_alloc ?_ _)); exact BK260.out⟩, ⟨by (try simp only [hl267001_96]); (try simp only [hl273001_96]); (with_reducible repeat (first | refine blk_drewN ?_ _ | refine blk_drew ?_ | refine blk_alloc ?_ _)); exact BK266.out⟩, ⟨by (try simp only [hl267001_96]); (try simp only [hl273001_96]); (with_reducible repeat (first | refine blk_drewN ?_ _ | refine blk_drew ?_ | refine blk_alloc ?_ _)); exact BK272.out⟩, ⟨by (try simp only [hl267001_96]); (try simp only [hl273001_96]); (with_reducible repeat (first | refine blk_drewN ?_ _ | refine blk_drew ?_ | refine blk_alloc ?_ _)); exact BK279.out⟩, ⟨by (try simp only [hl267001_96]); (try simp only [hl273001_96]); (with_reducible repeat (first | refine blk_drewN ?_ _ | refine blk_drew ?_ | refine blk_alloc ?_ _)); exact BK317.out⟩, ⟨bq_⟩⟩
              ·replace c165 := Bool.eq_false_iff.mpr c165
               subst c165
               have H1 : (laws_FnExactBothOf.j2 kj96 t298 true t273 t299 t277) = some r := by rw [if_neg (show ¬ (false = true) by decide)] at H; exact H
               clear H
               have H := H1
               clear H1
               exact (laws_FnExactBothOf.j2_no_1 (by rw [hr_.out] at H; exact H)).elim
             case rest =>
              clear HC142
              try clear c1
              try clear p2
              try clear c3
              try clear c14
              try clear c16
              try clear c17
              try clear c30
              try clear c165
              try clear c166
              try clear c167
              try clear c168
              try clear c169
              try clear c170
              try clear c171
              try clear c173
              try clear c174
              try clear c175
              try clear c176
              try clear c177
              try clear hcz172_0
              try clear hcz172_1
              try clear hcz172_2
              try clear hcz178_0
              try clear hcz178_1
              try clear hcz178_2
              try clear hfz172_0
              try clear hfz172_1
              try clear hfz172_2
              try clear hfz178_0
              try clear hfz178_1
              try clear hfz178_2
              obtain ⟨kq, x110_141, rfl, HA, HJ141, HO_261001, HO_267001, HO_273001, HO_280001, HO_318001, BK240, BK241, BK260, BK266, BK272, BK279, BK317, HB⟩ := hcut
              have hl280001_141 := (Kd.R_reads' HO_280001.out).1
              rw [hl280001_141] at HO_280001
              (try simp only [hl280001_141])
              (try simp only [hl280001_141] at BK240)
              (try simp only [hl280001_141] at BK241)
              (try simp only [hl280001_141] at BK260)
              (try simp only [hl280001_141] at BK266)
              (try simp only [hl280001_141] at BK272)
              (try simp only [hl280001_141] at BK279)
              (try simp only [hl280001_141] at BK317)
              (try simp only [hl280001_141] at HO_261001)
              (try simp only [hl280001_141] at HO_267001)
              (try simp only [hl280001_141] at HO_273001)
              (try simp only [hl280001_141] at HO_318001)
              cases kq with
              | zero => exact absurd HA.out (by simp [laws_FnExactBothOf.j2])
              | succ kj141 =>
               have H := HA.out
               clear HA
               simp only [laws_FnExactBothOf.j2] at H
               by_cases c180 : x110_141 = true
               ·subst c180
                have H1 : (some false) = some r := by rw [if_pos rfl] at H; exact H
                clear H
                have H := H1
                clear H1
                exact absurd (Option.some.inj H).symm (by rw [hr_.out]; simp)
               ·replace c180 := Bool.eq_false_iff.mpr c180
                subst c180
                have H1 : ((laws_heldDiagram.f kj141 t273 t299 t277 1).bind fun t319 => (if t319 < 0 then (some false) else (if t319 = t298 then (some true) else (some false)))) = some r := by rw [if_neg (show ¬ (false = true) by decide)] at H; exact H
                clear H
                have H := H1
                clear H1
                replace H := Option.bind_eq_some_iff.mp H
                obtain ⟨t319, A1810, H⟩ := H
                replace H : (if t319 < 0 then (some false) else (if t319 = t298 then (some true) else (some false))) = some r := H
                have A181 := Aside0.mk A1810
                clear A1810
                by_cases c182 : t319 < 0
                ·rw [if_pos c182] at H
                 have c182b0 : decide (t319 < 0) = true := decide_eq_true c182
                 clear c182
                 exact absurd (Option.some.inj H).symm (by rw [hr_.out]; simp)
                ·rw [if_neg c182] at H
                 have c182b0 : decide (t319 < 0) = false := decide_eq_false c182
                 clear c182
                 by_cases c183 : t319 = t298
                 ·rw [if_pos c183] at H
                  have c183b0 : (t319 == t298) = true := beq_iff_eq.mpr c183
                  have c183b1 : (t319 != t298) = false := bne_eq_false_iff_eq.mpr c183
                  clear c183
                  obtain rfl := Option.some.inj H
                  have hnb184 := NB279_240.out
                  have hnc184 := NB240_279.out
                  have hnb185 := NB279_241.out
                  have hnc185 := NB241_279.out
                  have hnb186 := NB279_260.out
                  have hnc186 := NB260_279.out
                  have hnb187 := NB279_266.out
                  have hnc187 := NB266_279.out
                  have hnb188 := NB279_272.out
                  have hnc188 := NB272_279.out
                  have hnb189 := NB279_317.out
                  have hnc189 := NB317_279.out
                  have hcz190_0 := cq_ BK279.out 0 (.int .i64 t273)
                  have hcz190_1 := cq_ BK279.out 1 (.slice Ao73 t299.length co73)
                  have hcz190_2 := cq_ BK279.out 2 (.int .i64 t277)
                  have hfz190_0 := blk_frozen BK279.out 0
                  have hfz190_1 := blk_frozen BK279.out 1
                  have hfz190_2 := blk_frozen BK279.out 2
                  go_wp2_with (first | ((with_reducible refine gate_callee (f := 28) rfl ?_); refine goesL_ (some 113) rfl rfl Try.func28 (by kernel_rfl) rfl #[.agg #[.int .i64 t273, .slice Ao73 t299.length co73, .int .i64 t277], .int .i64 1] rfl (by (try simp only [List.map_toArray, List.map_cons, List.map_nil]); first | done | rfl | (simp only [List.length_drop, List.length_take]; rfl)) ?_; (with_reducible refine (laws_heldDiagram.calls kj141 t273 _ _ t299 t277 1 t319 _ ?side1 ?side2 A181.out).mono ?_); (case side1 => repeat (first | exact (Kd.R_reads' HO_280001.out).2.2 | (with_reducible refine Kd.C_alloc ?_ _) | (with_reducible refine Kd.C_drewN ?_ _) | (with_reducible refine Kd.C_drew ?_))); (case side2 => exact (Kd.R_reads' HO_280001.out).2.1); rintro e w191 ⟨rfl, hb⟩; refine ⟨_, rfl, ?_⟩; have n0_ := Aside0.mk (Kd.R_below (rq_ HO_261001.out) hb); have n1_ := Aside0.mk (Kd.R_below (rq_ HO_267001.out) hb); have n2_ := Aside0.mk (Kd.R_below (rq_ HO_273001.out) hb); have n3_ := Aside0.mk (Kd.R_below (rq_ HO_280001.out) hb); have n4_ := Aside0.mk (Kd.R_below (rq_ HO_318001.out) hb); have n5_ := Aside0.mk (blk_below (bk_ BK240.out) hb); have n6_ := Aside0.mk (blk_below (bk_ BK241.out) hb); have n7_ := Aside0.mk (blk_below (bk_ BK260.out) hb); have n8_ := Aside0.mk (blk_below (bk_ BK266.out) hb); have n9_ := Aside0.mk (blk_below (bk_ BK272.out) hb); have n10_ := Aside0.mk (blk_below (bk_ BK279.out) hb); have n11_ := Aside0.mk (blk_below (bk_ BK317.out) hb); have n12_ := Aside0.mk (below_step (bq_) hb); clear HO_261001; clear HO_267001; clear HO_273001; clear HO_280001; clear HO_318001; clear BK240; clear BK241; clear BK260; clear BK266; clear BK272; clear BK279; clear BK317; clear HB; have HO_261001 := n0_; have HO_267001 := n1_; have HO_273001 := n2_; have HO_280001 := n3_; have HO_318001 := n4_; have BK240 := n5_; have BK241 := n6_; have BK260 := n7_; have BK266 := n8_; have BK272 := n9_; have BK279 := n10_; have BK317 := n11_; have HB := n12_; clear n0_ n1_ n2_ n3_ n4_ n5_ n6_ n7_ n8_ n9_ n10_ n11_ n12_; (try clear hb); (try clear hb2); (try clear hk); (try clear hi)))
                  go_ret
                  exact ⟨by first | rfl | (simp [errW_none, errW_some] <;> rfl) | (simp [*, errW_none, errW_some] <;> rfl), bq_⟩
                 ·rw [if_neg c183] at H
                  have c183b0 : (t319 == t298) = false := beq_eq_false_iff_ne.mpr c183
                  have c183b1 : (t319 != t298) = true := bne_iff_ne.mpr c183
                  exact absurd (Option.some.inj H).symm (by rw [hr_.out]; simp)
            ·rw [if_neg c138] at H
             have c138b0 : (t300 == t298) = false := beq_eq_false_iff_ne.mpr c138
             have c138b1 : (t300 != t298) = true := bne_iff_ne.mpr c138
             exact absurd (Option.some.inj H).symm (by rw [hr_.out]; simp)
       ·replace c94 := Bool.eq_false_iff.mpr c94
        subst c94
        have H1 : (some false) = some r := by rw [if_neg (show ¬ (false = true) by decide)] at H; exact H
        clear H
        have H := H1
        clear H1
        exact absurd (Option.some.inj H).symm (by rw [hr_.out]; simp)
      ·replace c91 := Bool.eq_false_iff.mpr c91
       subst c91
       have H1 : (some false) = some r := by rw [if_neg (show ¬ (false = true) by decide)] at H; exact H
       clear H
       have H := H1
       clear H1
       exact absurd (Option.some.inj H).symm (by rw [hr_.out]; simp)
def laws_FnExactBothOf.Pure : Prop := ∀ (a0_0 : Int) (l0_1 : List (S101)) (a0_2 : Int) (a1_0 : Int) (l1_1 : List (S101)) (a1_2 : Int), ((Lit.int .i64 a0_0).wf = true) → (l0_1.length ≤ maxLen ∧ ∀ y0_ ∈ l0_1, ((Lit.int .i64 y0_.f0).wf = true) ∧ ((Lit.int .i64 y0_.f1).wf = true) ∧ ((Lit.int .i64 y0_.f2).wf = true)) → ((Lit.int .i64 a0_2).wf = true) → ((Lit.int .i64 a1_0).wf = true) → (l1_1.length ≤ maxLen ∧ ∀ y0_ ∈ l1_1, ((Lit.int .i64 y0_.f0).wf = true) ∧ ((Lit.int .i64 y0_.f1).wf = true) ∧ ((Lit.int .i64 y0_.f2).wf = true)) → ((Lit.int .i64 a1_2).wf = true) → ∃ k, laws_FnExactBothOf.f k a0_0 l0_1 a0_2 a1_0 l1_1 a1_2 = some true
theorem laws_FnExactBothOf.walk (P : laws_FnExactBothOf.Pure) (w : World) (a0_0 : Int) (hg0_0 : (Lit.int .i64 a0_0).wf = true) (A0_1 : Option Addr) (c0_1 : Nat) (l0_1 : List (S101)) (hr0_1 : Kd.C k101 w A0_1 l0_1.length l0_1) (hc0_1 : l0_1.length ≤ c0_1) (hg0_1 : l0_1.length ≤ maxLen ∧ ∀ y0_ ∈ l0_1, ((Lit.int .i64 y0_.f0).wf = true) ∧ ((Lit.int .i64 y0_.f1).wf = true) ∧ ((Lit.int .i64 y0_.f2).wf = true)) (a0_2 : Int) (hg0_2 : (Lit.int .i64 a0_2).wf = true) (a1_0 : Int) (hg1_0 : (Lit.int .i64 a1_0).wf = true) (A1_1 : Option Addr) (c1_1 : Nat) (l1_1 : List (S101)) (hr1_1 : Kd.C k101 w A1_1 l1_1.length l1_1) (hc1_1 : l1_1.length ≤ c1_1) (hg1_1 : l1_1.length ≤ maxLen ∧ ∀ y0_ ∈ l1_1, ((Lit.int .i64 y0_.f0).wf = true) ∧ ((Lit.int .i64 y0_.f1).wf = true) ∧ ((Lit.int .i64 y0_.f2).wf = true)) (a1_2 : Int) (hg1_2 : (Lit.int .i64 a1_2).wf = true) :
  Calls Try.prog 7 #[.agg #[.int .i64 a0_0, .slice A0_1 l0_1.length c0_1, .int .i64 a0_2], .agg #[.int .i64 a1_0, .slice A1_1 l1_1.length c1_1, .int .i64 a1_2]] w fun e w' => e = .returned (.bool true) ∧ Below w.heap.size w w' := by
 obtain ⟨k, h⟩ := P a0_0 l0_1 a0_2 a1_0 l1_1 a1_2 hg0_0 hg0_1 hg0_2 hg1_0 hg1_1 hg1_2
 refine (laws_FnExactBothOf.calls k a0_0 A0_1 c0_1 l0_1 a0_2 a1_0 A1_1 c1_1 l1_1 a1_2 true w hr0_1 hc0_1 hr1_1 hc1_1 ⟨rfl⟩ h).mono ?_
 rintro e w' ⟨rfl, hd⟩
 exact ⟨rfl, hd⟩
end Go.Proofs.Ytpndhlcbfobelaa.PDB
