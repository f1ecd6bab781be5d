import Derived.Test.YtpndhlcbfobelaaPDDx0
import Derived.Test.YtpndhlcbfobelaaPDDx1
import Derived.Test.YtpndhlcbfobelaaPDDx3
import Derived.Test.YtpndhlcbfobelaaPDDx4
namespace Go.Proofs.Ytpndhlcbfobelaa.PDD
open Go.RowKit Go.Proofs.YtpndhlcbfobelaaW.PrintWords Go.Proofs.YtpndhlcbfobelaaW.PrintLast Go.Proofs.YtpndhlcbfobelaaW.PrintMore
attribute [local go_sem] max2_int min2_int max_two min_two max_three min_three max_four min_four   -- for this text's walks alone
set_option linter.unusedVariables false
set_option linter.unusedSimpArgs false
attribute [local go_sem high] eqA75
mutual
def spec_GoodDiagram.j0 : Nat → Bool → Int → List (S75) → Int → Int → List (S75) → Int → Option (Bool)
  | 0, _, _, _, _, _, _, _ => none
  | k + 1, x32, x131000, x131001, x131002, x141000, x141001, x141002 => if x32 = true then (some false) else (spec_GoodDiagram.l0 k x141001 (x141001.length : Int) 0 x131000 x131001 x131002)
def spec_GoodDiagram.l0 : Nat → List (S75) → Int → Int → Int → List (S75) → Int → Option (Bool)
  | 0, _, _, _, _, _, _ => none
  | k + 1, x34, x35, x36, x131000, x131001, x131002 => if x36 < x35 then (if 0 ≤ x36 then (if x36 < (x34.length : Int) then (if x36 < (x131001.length : Int) then (if (!(((rd_T75 x131001 x36).f0) == ((rd_T75 x34 x36).f0)) || (!(((rd_T75 x131001 x36).f1) == ((rd_T75 x34 x36).f1)) || (!(((rd_T75 x131001 x36).f2) == ((rd_T75 x34 x36).f2))))) = true then (some false) else (spec_GoodDiagram.l0 k x34 x35 (wrap64 (x36 + 1)) x131000 x131001 x131002)) else (none)) else (none)) else (none)) else (some true)
end
def spec_GoodDiagram.f (k : Nat) (a0_0 : Int) (l0_1 : List (S75)) (a0_2 : Int) : Option (Bool) := (spec_l7Table.f k a0_0 l0_1 a0_2).bind fun bt131 => (if bt131.2 = true then ((spec_l7Of.f k a0_0 bt131.1).bind fun bt135 => (if bt135.2.2 = a0_2 then (spec_GoodDiagram.j0 k ((bt135.2.1.length : Int) != (l0_1.length : Int)) a0_0 l0_1 a0_2 bt135.1 bt135.2.1 bt135.2.2) else (spec_GoodDiagram.j0 k true a0_0 l0_1 a0_2 bt135.1 bt135.2.1 bt135.2.2))) else (some false))
set_option maxHeartbeats 8000000 in
set_option maxRecDepth 100000 in
theorem spec_GoodDiagram.calls (k : Nat) (a0_0 : Int) (A0_1 : Option Addr) (c0_1 : Nat) (l0_1 : List (S75)) (a0_2 : Int) (r : Bool) (w : World) (hr0_1 : Kd.C k75 w A0_1 l0_1.length l0_1) (hc0_1 : l0_1.length ≤ c0_1) (h : spec_GoodDiagram.f k a0_0 l0_1 a0_2 = some r) :
    Calls Try.prog 48 #[.agg #[.int .i64 a0_0, .slice A0_1 l0_1.length c0_1, .int .i64 a0_2]] w fun e w' => e = .returned (.bool r) ∧ Below w.heap.size w w' := by
  have hu30 := Try.underlying30
  have hu75 := Try.underlying75
  have HR0_1 := Aside0.mk hr0_1
  have HC0_1 := Aside0.mk hc0_1
  clear hr0_1 hc0_1
  have HB := Aside0.mk (Below.refl w.heap.size w)
  have H : ((spec_l7Table.f k a0_0 l0_1 a0_2).bind fun bt131 => (if bt131.2 = true then ((spec_l7Of.f k a0_0 bt131.1).bind fun bt135 => (if bt135.2.2 = a0_2 then (spec_GoodDiagram.j0 k ((bt135.2.1.length : Int) != (l0_1.length : Int)) a0_0 l0_1 a0_2 bt135.1 bt135.2.1 bt135.2.2) else (spec_GoodDiagram.j0 k true a0_0 l0_1 a0_2 bt135.1 bt135.2.1 bt135.2.2))) else (some false))) = some r := h
  clear h
  replace H := Option.bind_eq_some_iff.mp H
  obtain ⟨⟨t131, t134⟩, A20, H⟩ := H
  replace H : (if t134 = true then ((spec_l7Of.f k a0_0 t131).bind fun bt135 => (if bt135.2.2 = a0_2 then (spec_GoodDiagram.j0 k ((bt135.2.1.length : Int) != (l0_1.length : Int)) a0_0 l0_1 a0_2 bt135.1 bt135.2.1 bt135.2.2) else (spec_GoodDiagram.j0 k true a0_0 l0_1 a0_2 bt135.1 bt135.2.1 bt135.2.2))) else (some false)) = some r := H
  have A2 := Aside0.mk A20
  clear A20
  by_cases c3 : t134 = true
  · subst c3
    have H1 : ((spec_l7Of.f k a0_0 t131).bind fun bt135 => (if bt135.2.2 = a0_2 then (spec_GoodDiagram.j0 k ((bt135.2.1.length : Int) != (l0_1.length : Int)) a0_0 l0_1 a0_2 bt135.1 bt135.2.1 bt135.2.2) else (spec_GoodDiagram.j0 k true a0_0 l0_1 a0_2 bt135.1 bt135.2.1 bt135.2.2))) = some r := by rw [if_pos rfl] at H; exact H
    clear H
    have H := H1
    clear H1
    replace H := Option.bind_eq_some_iff.mp H
    obtain ⟨⟨t135, t136, t139⟩, A40, H⟩ := H
    replace H : (if t139 = a0_2 then (spec_GoodDiagram.j0 k ((t136.length : Int) != (l0_1.length : Int)) a0_0 l0_1 a0_2 t135 t136 t139) else (spec_GoodDiagram.j0 k true a0_0 l0_1 a0_2 t135 t136 t139)) = some r := H
    have A4 := Aside0.mk A40
    clear A40
    have HC5 := Aside0.mk H
    clear H
    go_enter Try.func48, Try.ntmps48
    go_upto_region 5 with (first | ((with_reducible refine gate_dst (N := 1) rfl ?_); (try (refine gate_guard (by rfl) ?_; dsimp only)); refine boxq_ (N := 1) (cs := #[.int .i64 a0_0, .slice A0_1 l0_1.length c0_1, .int .i64 a0_2]) (t := 30) ?_; intro gb130 hg w6 hbox hb; have n0_ := Aside0.mk (below_step (bq_) hb); have n1_ := Aside0.mk (hbox); have n2_ := Aside0.mk ((by rw [hg]; exact (below_size (bq_)) : w.heap.size ≤ gb130)); have n3_ := Aside0.mk ((by rw [hg]; exact (below_size (bq_)) : w.heap.size ≤ gb130)); clear HB; have HB := n0_; have BK130 := n1_; have GW130 := n2_; have GE130 := n3_; clear n0_ n1_ n2_ n3_; clear hb hbox hg; have hcz7_0 := cq_ BK130.out 0 (.int .i64 a0_0); have hcz7_1 := cq_ BK130.out 1 (.slice A0_1 l0_1.length c0_1); have hcz7_2 := cq_ BK130.out 2 (.int .i64 a0_2); have hfz7_0 := blk_frozen BK130.out 0; have hfz7_1 := blk_frozen BK130.out 1; have hfz7_2 := blk_frozen BK130.out 2) | (go_at_call 60; (with_reducible refine (spec_l7Table.calls k a0_0 _ _ l0_1 a0_2 t131 true _ ?side1 ?side2 A2.out).mono ?_); (case side1 => repeat (first | exact (Kd.C_below HR0_1.out HB.out) | (with_reducible refine Kd.C_alloc ?_ _) | (with_reducible refine Kd.C_drewN ?_ _) | (with_reducible refine Kd.C_drew ?_))); (case side2 => exact HC0_1.out); rintro e w8 ⟨v132, rfl, ho0, hb⟩; have n0_ := Aside0.mk (Kd.R_lower ho0 (below_size (bq_))); have n1_ := Aside0.mk (blk_below (bk_ BK130.out) hb); have n2_ := Aside0.mk (below_step (bq_) hb); clear BK130; clear HB; have HO133 := n0_; have BK130 := n1_; have HB := n2_; clear n0_ n1_ n2_; (try clear hb); (try clear hb2); (try clear hk); (try clear hi); (try clear ho0); have hcz9_0 := cq_ BK130.out 0 (.int .i64 a0_0); have hcz9_1 := cq_ BK130.out 1 (.slice A0_1 l0_1.length c0_1); have hcz9_2 := cq_ BK130.out 2 (.int .i64 a0_2); have hfz9_0 := blk_frozen BK130.out 0; have hfz9_1 := blk_frozen BK130.out 1; have hfz9_2 := blk_frozen BK130.out 2; obtain ⟨Ao10, co10, eo10⟩ := Kd.R_slice HO133.out; subst eo10) | (go_at_call 62; (with_reducible refine (spec_l7Of.calls k a0_0 _ _ t131 t135 t136 t139 _ ?side1 ?side2 A4.out).mono ?_); (case side1 => repeat (first | exact (Kd.R_reads' HO133.out).2.2 | (with_reducible refine Kd.C_alloc ?_ _) | (with_reducible refine Kd.C_drewN ?_ _) | (with_reducible refine Kd.C_drew ?_))); (case side2 => exact (Kd.R_reads' HO133.out).2.1); rintro e w11 ⟨v137, rfl, ho0, hb⟩; have n0_ := Aside0.mk (Kd.R_below (rq_ HO133.out) hb); have n1_ := Aside0.mk (Kd.R_lower ho0 (below_size (bq_))); have n2_ := Aside0.mk (blk_below (bk_ BK130.out) hb); have n3_ := Aside0.mk (below_step (bq_) hb); clear HO133; clear BK130; clear HB; have HO133 := n0_; have HO138 := n1_; have BK130 := n2_; have HB := n3_; clear n0_ n1_ n2_ n3_; (try clear hb); (try clear hb2); (try clear hk); (try clear hi); (try clear ho0)) | ((with_reducible refine gate_dst (N := 5) rfl ?_); (try (refine gate_guard (by rfl) ?_; dsimp only)); refine boxq_ (N := 5) (cs := #[.int .i64 0, .slice none 0 0, .int .i64 0]) (t := 30) ?_; intro gb140 hg w12 hbox hb; have n0_ := Aside0.mk (Kd.R_below (rq_ HO133.out) hb); have n1_ := Aside0.mk (Kd.R_below (rq_ HO138.out) hb); have n2_ := Aside0.mk (blk_below (bk_ BK130.out) hb); have n3_ := Aside0.mk (below_step (bq_) hb); have n4_ := Aside0.mk (hbox); have n5_ := Aside0.mk ((by rw [hg]; exact (below_size (bq_)) : w.heap.size ≤ gb140)); have n6_ := Aside0.mk ((by rw [hg]; exact (below_size (bq_)) : w.heap.size ≤ gb140)); have n7_ := Aside0.mk ((by rw [hg]; exact Nat.ne_of_lt (blk_lt (bk_ BK130.out)) : gb130 ≠ gb140)); have n8_ := Aside0.mk ((by rw [hg]; exact Nat.ne_of_gt (blk_lt (bk_ BK130.out)) : gb140 ≠ gb130)); clear HO133; clear HO138; clear BK130; clear HB; have HO133 := n0_; have HO138 := n1_; have BK130 := n2_; have HB := n3_; have BK140 := n4_; have GW140 := n5_; have GE140 := n6_; have NB130_140 := n7_; have NB140_130 := n8_; clear n0_ n1_ n2_ n3_ n4_ n5_ n6_ n7_ n8_; clear hb hbox hg; have hnb13 := NB140_130.out; have hnc13 := NB130_140.out; have hcz14_0 := cq_ BK140.out 0 (.int .i64 0); have hcz14_1 := cq_ BK140.out 1 (.slice none 0 0); have hcz14_2 := cq_ BK140.out 2 (.int .i64 0); have hfz14_0 := blk_frozen BK140.out 0; have hfz14_1 := blk_frozen BK140.out 1; have hfz14_2 := blk_frozen BK140.out 2; obtain ⟨Ao15, co15, eo15⟩ := Kd.R_slice HO138.out; subst eo15))
    repeat (go_quiet (first | ((with_reducible refine gate_dst (N := 1) rfl ?_); (try (refine gate_guard (by rfl) ?_; dsimp only)); refine boxq_ (N := 1) (cs := #[.int .i64 a0_0, .slice A0_1 l0_1.length c0_1, .int .i64 a0_2]) (t := 30) ?_; intro gb130 hg w6 hbox hb; have n0_ := Aside0.mk (below_step (bq_) hb); have n1_ := Aside0.mk (hbox); have n2_ := Aside0.mk ((by rw [hg]; exact (below_size (bq_)) : w.heap.size ≤ gb130)); have n3_ := Aside0.mk ((by rw [hg]; exact (below_size (bq_)) : w.heap.size ≤ gb130)); clear HB; have HB := n0_; have BK130 := n1_; have GW130 := n2_; have GE130 := n3_; clear n0_ n1_ n2_ n3_; clear hb hbox hg; have hcz7_0 := cq_ BK130.out 0 (.int .i64 a0_0); have hcz7_1 := cq_ BK130.out 1 (.slice A0_1 l0_1.length c0_1); have hcz7_2 := cq_ BK130.out 2 (.int .i64 a0_2); have hfz7_0 := blk_frozen BK130.out 0; have hfz7_1 := blk_frozen BK130.out 1; have hfz7_2 := blk_frozen BK130.out 2) | (go_at_call 60; (with_reducible refine (spec_l7Table.calls k a0_0 _ _ l0_1 a0_2 t131 true _ ?side1 ?side2 A2.out).mono ?_); (case side1 => repeat (first | exact (Kd.C_below HR0_1.out HB.out) | (with_reducible refine Kd.C_alloc ?_ _) | (with_reducible refine Kd.C_drewN ?_ _) | (with_reducible refine Kd.C_drew ?_))); (case side2 => exact HC0_1.out); rintro e w8 ⟨v132, rfl, ho0, hb⟩; have n0_ := Aside0.mk (Kd.R_lower ho0 (below_size (bq_))); have n1_ := Aside0.mk (blk_below (bk_ BK130.out) hb); have n2_ := Aside0.mk (below_step (bq_) hb); clear BK130; clear HB; have HO133 := n0_; have BK130 := n1_; have HB := n2_; clear n0_ n1_ n2_; (try clear hb); (try clear hb2); (try clear hk); (try clear hi); (try clear ho0); have hcz9_0 := cq_ BK130.out 0 (.int .i64 a0_0); have hcz9_1 := cq_ BK130.out 1 (.slice A0_1 l0_1.length c0_1); have hcz9_2 := cq_ BK130.out 2 (.int .i64 a0_2); have hfz9_0 := blk_frozen BK130.out 0; have hfz9_1 := blk_frozen BK130.out 1; have hfz9_2 := blk_frozen BK130.out 2; obtain ⟨Ao10, co10, eo10⟩ := Kd.R_slice HO133.out; subst eo10) | (go_at_call 62; (with_reducible refine (spec_l7Of.calls k a0_0 _ _ t131 t135 t136 t139 _ ?side1 ?side2 A4.out).mono ?_); (case side1 => repeat (first | exact (Kd.R_reads' HO133.out).2.2 | (with_reducible refine Kd.C_alloc ?_ _) | (with_reducible refine Kd.C_drewN ?_ _) | (with_reducible refine Kd.C_drew ?_))); (case side2 => exact (Kd.R_reads' HO133.out).2.1); rintro e w11 ⟨v137, rfl, ho0, hb⟩; have n0_ := Aside0.mk (Kd.R_below (rq_ HO133.out) hb); have n1_ := Aside0.mk (Kd.R_lower ho0 (below_size (bq_))); have n2_ := Aside0.mk (blk_below (bk_ BK130.out) hb); have n3_ := Aside0.mk (below_step (bq_) hb); clear HO133; clear BK130; clear HB; have HO133 := n0_; have HO138 := n1_; have BK130 := n2_; have HB := n3_; clear n0_ n1_ n2_ n3_; (try clear hb); (try clear hb2); (try clear hk); (try clear hi); (try clear ho0)) | ((with_reducible refine gate_dst (N := 5) rfl ?_); (try (refine gate_guard (by rfl) ?_; dsimp only)); refine boxq_ (N := 5) (cs := #[.int .i64 0, .slice none 0 0, .int .i64 0]) (t := 30) ?_; intro gb140 hg w12 hbox hb; have n0_ := Aside0.mk (Kd.R_below (rq_ HO133.out) hb); have n1_ := Aside0.mk (Kd.R_below (rq_ HO138.out) hb); have n2_ := Aside0.mk (blk_below (bk_ BK130.out) hb); have n3_ := Aside0.mk (below_step (bq_) hb); have n4_ := Aside0.mk (hbox); have n5_ := Aside0.mk ((by rw [hg]; exact (below_size (bq_)) : w.heap.size ≤ gb140)); have n6_ := Aside0.mk ((by rw [hg]; exact (below_size (bq_)) : w.heap.size ≤ gb140)); have n7_ := Aside0.mk ((by rw [hg]; exact Nat.ne_of_lt (blk_lt (bk_ BK130.out)) : gb130 ≠ gb140)); have n8_ := Aside0.mk ((by rw [hg]; exact Nat.ne_of_gt (blk_lt (bk_ BK130.out)) : gb140 ≠ gb130)); clear HO133; clear HO138; clear BK130; clear HB; have HO133 := n0_; have HO138 := n1_; have BK130 := n2_; have HB := n3_; have BK140 := n4_; have GW140 := n5_; have GE140 := n6_; have NB130_140 := n7_; have NB140_130 := n8_; clear n0_ n1_ n2_ n3_ n4_ n5_ n6_ n7_ n8_; clear hb hbox hg; have hnb13 := NB140_130.out; have hnc13 := NB130_140.out; have hcz14_0 := cq_ BK140.out 0 (.int .i64 0); have hcz14_1 := cq_ BK140.out 1 (.slice none 0 0); have hcz14_2 := cq_ BK140.out 2 (.int .i64 0); have hfz14_0 := blk_frozen BK140.out 0; have hfz14_1 := blk_frozen BK140.out 1; have hfz14_2 := blk_frozen BK140.out 2; obtain ⟨Ao15, co15, eo15⟩ := Kd.R_slice HO138.out; subst eo15)); go_upto_region 5 with (first | ((with_reducible refine gate_dst (N := 1) rfl ?_); (try (refine gate_guard (by rfl) ?_; dsimp only)); refine boxq_ (N := 1) (cs := #[.int .i64 a0_0, .slice A0_1 l0_1.length c0_1, .int .i64 a0_2]) (t := 30) ?_; intro gb130 hg w6 hbox hb; have n0_ := Aside0.mk (below_step (bq_) hb); have n1_ := Aside0.mk (hbox); have n2_ := Aside0.mk ((by rw [hg]; exact (below_size (bq_)) : w.heap.size ≤ gb130)); have n3_ := Aside0.mk ((by rw [hg]; exact (below_size (bq_)) : w.heap.size ≤ gb130)); clear HB; have HB := n0_; have BK130 := n1_; have GW130 := n2_; have GE130 := n3_; clear n0_ n1_ n2_ n3_; clear hb hbox hg; have hcz7_0 := cq_ BK130.out 0 (.int .i64 a0_0); have hcz7_1 := cq_ BK130.out 1 (.slice A0_1 l0_1.length c0_1); have hcz7_2 := cq_ BK130.out 2 (.int .i64 a0_2); have hfz7_0 := blk_frozen BK130.out 0; have hfz7_1 := blk_frozen BK130.out 1; have hfz7_2 := blk_frozen BK130.out 2) | (go_at_call 60; (with_reducible refine (spec_l7Table.calls k a0_0 _ _ l0_1 a0_2 t131 true _ ?side1 ?side2 A2.out).mono ?_); (case side1 => repeat (first | exact (Kd.C_below HR0_1.out HB.out) | (with_reducible refine Kd.C_alloc ?_ _) | (with_reducible refine Kd.C_drewN ?_ _) | (with_reducible refine Kd.C_drew ?_))); (case side2 => exact HC0_1.out); rintro e w8 ⟨v132, rfl, ho0, hb⟩; have n0_ := Aside0.mk (Kd.R_lower ho0 (below_size (bq_))); have n1_ := Aside0.mk (blk_below (bk_ BK130.out) hb); have n2_ := Aside0.mk (below_step (bq_) hb); clear BK130; clear HB; have HO133 := n0_; have BK130 := n1_; have HB := n2_; clear n0_ n1_ n2_; (try clear hb); (try clear hb2); (try clear hk); (try clear hi); (try clear ho0); have hcz9_0 := cq_ BK130.out 0 (.int .i64 a0_0); have hcz9_1 := cq_ BK130.out 1 (.slice A0_1 l0_1.length c0_1); have hcz9_2 := cq_ BK130.out 2 (.int .i64 a0_2); have hfz9_0 := blk_frozen BK130.out 0; have hfz9_1 := blk_frozen BK130.out 1; have hfz9_2 := blk_frozen BK130.out 2; obtain ⟨Ao10, co10, eo10⟩ := Kd.R_slice HO133.out; subst eo10) | (go_at_call 62; (with_reducible refine (spec_l7Of.calls k a0_0 _ _ t131 t135 t136 t139 _ ?side1 ?side2 A4.out).mono ?_); (case side1 => repeat (first | exact (Kd.R_reads' HO133.out).2.2 | (with_reducible refine Kd.C_alloc ?_ _) | (with_reducible refine Kd.C_drewN ?_ _) | (with_reducible refine Kd.C_drew ?_))); (case side2 => exact (Kd.R_reads' HO133.out).2.1); rintro e w11 ⟨v137, rfl, ho0, hb⟩; have n0_ := Aside0.mk (Kd.R_below (rq_ HO133.out) hb); have n1_ := Aside0.mk (Kd.R_lower ho0 (below_size (bq_))); have n2_ := Aside0.mk (blk_below (bk_ BK130.out) hb); have n3_ := Aside0.mk (below_step (bq_) hb); clear HO133; clear BK130; clear HB; have HO133 := n0_; have HO138 := n1_; have BK130 := n2_; have HB := n3_; clear n0_ n1_ n2_ n3_; (try clear hb); (try clear hb2); (try clear hk); (try clear hi); (try clear ho0)) | ((with_reducible refine gate_dst (N := 5) rfl ?_); (try (refine gate_guard (by rfl) ?_; dsimp only)); refine boxq_ (N := 5) (cs := #[.int .i64 0, .slice none 0 0, .int .i64 0]) (t := 30) ?_; intro gb140 hg w12 hbox hb; have n0_ := Aside0.mk (Kd.R_below (rq_ HO133.out) hb); have n1_ := Aside0.mk (Kd.R_below (rq_ HO138.out) hb); have n2_ := Aside0.mk (blk_below (bk_ BK130.out) hb); have n3_ := Aside0.mk (below_step (bq_) hb); have n4_ := Aside0.mk (hbox); have n5_ := Aside0.mk ((by rw [hg]; exact (below_size (bq_)) : w.heap.size ≤ gb140)); have n6_ := Aside0.mk ((by rw [hg]; exact (below_size (bq_)) : w.heap.size ≤ gb140)); have n7_ := Aside0.mk ((by rw [hg]; exact Nat.ne_of_lt (blk_lt (bk_ BK130.out)) : gb130 ≠ gb140)); have n8_ := Aside0.mk ((by rw [hg]; exact Nat.ne_of_gt (blk_lt (bk_ BK130.out)) : gb140 ≠ gb130)); clear HO133; clear HO138; clear BK130; clear HB; have HO133 := n0_; have HO138 := n1_; have BK130 := n2_; have HB := n3_; have BK140 := n4_; have GW140 := n5_; have GE140 := n6_; have NB130_140 := n7_; have NB140_130 := n8_; clear n0_ n1_ n2_ n3_ n4_ n5_ n6_ n7_ n8_; clear hb hbox hg; have hnb13 := NB140_130.out; have hnc13 := NB130_140.out; have hcz14_0 := cq_ BK140.out 0 (.int .i64 0); have hcz14_1 := cq_ BK140.out 1 (.slice none 0 0); have hcz14_2 := cq_ BK140.out 2 (.int .i64 0); have hfz14_0 := blk_frozen BK140.out 0; have hfz14_1 := blk_frozen BK140.out 1; have hfz14_2 := blk_frozen BK140.out 2; obtain ⟨Ao15, co15, eo15⟩ := Kd.R_slice HO138.out; subst eo15)))
    (try simp only [Act.put, List.setIfInBounds_toArray, List.set_cons_zero, List.set_cons_succ])
    go_cut [32] (fun v32 wc => ∃ (kq : Nat) (x32_4 : Bool), v32 = .bool x32_4 ∧ Aside0 (spec_GoodDiagram.j0 kq x32_4 a0_0 l0_1 a0_2 t135 t136 t139 = some r) ∧ Aside0 (kq ≤ k) ∧ Aside0 (Kd.R k75 75 wc w.heap.size (fun _ => True) (.slice Ao15 t136.length co15) t136) ∧ Aside0 (wc.heap[gb130]? = some (.cells #[.int .i64 a0_0, (.slice A0_1 l0_1.length c0_1), .int .i64 a0_2] 30 (0, 0))) ∧ Aside0 (wc.heap[gb140]? = some (.cells #[.int .i64 t135, (.slice Ao15 t136.length co15), .int .i64 t139] 30 (0, 0))) ∧ Aside0 (Below w.heap.size w wc))
    case first =>
      have H := HC5.out
      clear HC5
      by_cases c16 : t139 = a0_2
      · rw [if_pos c16] at H
        have c16b0 : (t139 == a0_2) = true := beq_iff_eq.mpr c16
        have c16b1 : (t139 != a0_2) = false := bne_eq_false_iff_eq.mpr c16
        clear c16
        (first | rw [c16b0] | (simp only [i64_w, i32_w]; rw [c16b0]) | skip)
        have H' := Aside0.mk H
        clear H
        have hnb17 := NB140_130.out
        have hnc17 := NB130_140.out
        have hcz18_0 := cq_ BK140.out 0 (.int .i64 0)
        have hcz18_1 := cq_ BK140.out 1 (.slice none 0 0)
        have hcz18_2 := cq_ BK140.out 2 (.int .i64 0)
        have hfz18_0 := blk_frozen BK140.out 0
        have hfz18_1 := blk_frozen BK140.out 1
        have hfz18_2 := blk_frozen BK140.out 2
        have hcz19_0 := cq_ BK130.out 0 (.int .i64 a0_0)
        have hcz19_1 := cq_ BK130.out 1 (.slice A0_1 l0_1.length c0_1)
        have hcz19_2 := cq_ BK130.out 2 (.int .i64 a0_2)
        have hfz19_0 := blk_frozen BK130.out 0
        have hfz19_1 := blk_frozen BK130.out 1
        have hfz19_2 := blk_frozen BK130.out 2
        go_wp2
        repeat (go_quiet (fail); try go_wp2)
        go_meet
        case rel => exact ⟨_, (((t136.length : Int) != (l0_1.length : Int))), (by first | rfl | (simp; done) | (simp [*]; done)), H', ⟨by first | omega | exact Nat.le_refl _⟩, ⟨rq_ (Kd.R_mono (Kd.R_far (p := ⟨gb140, 2, none⟩) (Kd.R_far (p := ⟨gb140, 1, none⟩) (Kd.R_far (p := ⟨gb140, 0, none⟩) (Kd.R_types HO138.out BK140.out (by decide)) (fun _ hk => hk.2) (.int .i64 t135)) (fun _ hk => hk.2) (.slice Ao15 t136.length co15)) (fun _ hk => hk.2) (.int .i64 t139)) (fun _ hk => trivial))⟩, ⟨by (with_reducible repeat (first | refine blk_drewN ?_ _ | refine blk_drew ?_ | refine blk_alloc ?_ _)); refine blk_far ?_ NB130_140.out _; (with_reducible repeat (first | refine blk_drewN ?_ _ | refine blk_drew ?_ | refine blk_alloc ?_ _)); refine blk_far ?_ NB130_140.out _; (with_reducible repeat (first | refine blk_drewN ?_ _ | refine blk_drew ?_ | refine blk_alloc ?_ _)); refine blk_far ?_ NB130_140.out _; (with_reducible repeat (first | refine blk_drewN ?_ _ | refine blk_drew ?_ | refine blk_alloc ?_ _)); exact BK130.out⟩, ⟨by (with_reducible repeat (first | refine blk_drewN ?_ _ | refine blk_drew ?_ | refine blk_alloc ?_ _)); refine blk_put (cs := #[.int .i64 t135, .slice Ao15 t136.length co15, .int .i64 0]) ?_ 2 _ rfl; (with_reducible repeat (first | refine blk_drewN ?_ _ | refine blk_drew ?_ | refine blk_alloc ?_ _)); refine blk_put (cs := #[.int .i64 t135, .slice none 0 0, .int .i64 0]) ?_ 1 _ rfl; (with_reducible repeat (first | refine blk_drewN ?_ _ | refine blk_drew ?_ | refine blk_alloc ?_ _)); refine blk_put (cs := #[.int .i64 0, .slice none 0 0, .int .i64 0]) ?_ 0 _ rfl; (with_reducible repeat (first | refine blk_drewN ?_ _ | refine blk_drew ?_ | refine blk_alloc ?_ _)); exact BK140.out⟩, ⟨bq_⟩⟩
      · rw [if_neg c16] at H
        have c16b0 : (t139 == a0_2) = false := beq_eq_false_iff_ne.mpr c16
        have c16b1 : (t139 != a0_2) = true := bne_iff_ne.mpr c16
        (first | rw [c16b0] | (simp only [i64_w, i32_w]; rw [c16b0]) | skip)
        have H' := Aside0.mk H
        clear H
        have hnb20 := NB140_130.out
        have hnc20 := NB130_140.out
        have hcz21_0 := cq_ BK140.out 0 (.int .i64 0)
        have hcz21_1 := cq_ BK140.out 1 (.slice none 0 0)
        have hcz21_2 := cq_ BK140.out 2 (.int .i64 0)
        have hfz21_0 := blk_frozen BK140.out 0
        have hfz21_1 := blk_frozen BK140.out 1
        have hfz21_2 := blk_frozen BK140.out 2
        have hcz22_0 := cq_ BK130.out 0 (.int .i64 a0_0)
        have hcz22_1 := cq_ BK130.out 1 (.slice A0_1 l0_1.length c0_1)
        have hcz22_2 := cq_ BK130.out 2 (.int .i64 a0_2)
        have hfz22_0 := blk_frozen BK130.out 0
        have hfz22_1 := blk_frozen BK130.out 1
        have hfz22_2 := blk_frozen BK130.out 2
        go_wp2
        repeat (go_quiet (fail); try go_wp2)
        go_meet
        case rel => exact ⟨_, (true), (by first | rfl | (simp; done) | (simp [*]; done)), H', ⟨by first | omega | exact Nat.le_refl _⟩, ⟨rq_ (Kd.R_mono (Kd.R_far (p := ⟨gb140, 2, none⟩) (Kd.R_far (p := ⟨gb140, 1, none⟩) (Kd.R_far (p := ⟨gb140, 0, none⟩) (Kd.R_types HO138.out BK140.out (by decide)) (fun _ hk => hk.2) (.int .i64 t135)) (fun _ hk => hk.2) (.slice Ao15 t136.length co15)) (fun _ hk => hk.2) (.int .i64 t139)) (fun _ hk => trivial))⟩, ⟨by (with_reducible repeat (first | refine blk_drewN ?_ _ | refine blk_drew ?_ | refine blk_alloc ?_ _)); refine blk_far ?_ NB130_140.out _; (with_reducible repeat (first | refine blk_drewN ?_ _ | refine blk_drew ?_ | refine blk_alloc ?_ _)); refine blk_far ?_ NB130_140.out _; (with_reducible repeat (first | refine blk_drewN ?_ _ | refine blk_drew ?_ | refine blk_alloc ?_ _)); refine blk_far ?_ NB130_140.out _; (with_reducible repeat (first | refine blk_drewN ?_ _ | refine blk_drew ?_ | refine blk_alloc ?_ _)); exact BK130.out⟩, ⟨by (with_reducible repeat (first | refine blk_drewN ?_ _ | refine blk_drew ?_ | refine blk_alloc ?_ _)); refine blk_put (cs := #[.int .i64 t135, .slice Ao15 t136.length co15, .int .i64 0]) ?_ 2 _ rfl; (with_reducible repeat (first | refine blk_drewN ?_ _ | refine blk_drew ?_ | refine blk_alloc ?_ _)); refine blk_put (cs := #[.int .i64 t135, .slice none 0 0, .int .i64 0]) ?_ 1 _ rfl; (with_reducible repeat (first | refine blk_drewN ?_ _ | refine blk_drew ?_ | refine blk_alloc ?_ _)); refine blk_put (cs := #[.int .i64 0, .slice none 0 0, .int .i64 0]) ?_ 0 _ rfl; (with_reducible repeat (first | refine blk_drewN ?_ _ | refine blk_drew ?_ | refine blk_alloc ?_ _)); exact BK140.out⟩, ⟨bq_⟩⟩
    case rest =>
      clear HC5
      try clear c1
      try clear c2
      try clear p2
      try clear c3
      try clear c4
      try clear c13
      try clear c16
      try clear c16b0
      try clear c16b1
      try clear c17
      try clear c20
      try clear hcz14_0
      try clear hcz14_1
      try clear hcz14_2
      try clear hcz18_0
      try clear hcz18_1
      try clear hcz18_2
      try clear hcz19_0
      try clear hcz19_1
      try clear hcz19_2
      try clear hcz21_0
      try clear hcz21_1
      try clear hcz21_2
      try clear hcz22_0
      try clear hcz22_1
      try clear hcz22_2
      try clear hcz7_0
      try clear hcz7_1
      try clear hcz7_2
      try clear hcz9_0
      try clear hcz9_1
      try clear hcz9_2
      try clear hfz14_0
      try clear hfz14_1
      try clear hfz14_2
      try clear hfz18_0
      try clear hfz18_1
      try clear hfz18_2
      try clear hfz19_0
      try clear hfz19_1
      try clear hfz19_2
      try clear hfz21_0
      try clear hfz21_1
      try clear hfz21_2
      try clear hfz22_0
      try clear hfz22_1
      try clear hfz22_2
      try clear hfz7_0
      try clear hfz7_1
      try clear hfz7_2
      try clear hfz9_0
      try clear hfz9_1
      try clear hfz9_2
      obtain ⟨kq, x32_4, rfl, HA, HJ4, HO_141001, BK130, BK140, HB⟩ := hcut
      cases kq with
      | zero => exact absurd HA.out (by simp [spec_GoodDiagram.j0])
      | succ kj4 =>
        have H := HA.out
        clear HA
        simp only [spec_GoodDiagram.j0] at H
        by_cases c23 : x32_4 = true
        · subst c23
          have H1 : (some false) = some r := by rw [if_pos rfl] at H; exact H
          clear H
          have H := H1
          clear H1
          obtain rfl := Option.some.inj H
          go_wp2
          repeat (go_quiet (fail); try go_wp2)
          go_ret
          exact ⟨by first | rfl | (simp [errW_none, errW_some] <;> rfl) | (simp [*, errW_none, errW_some] <;> rfl), bq_⟩
        · replace c23 := Bool.eq_false_iff.mpr c23
          subst c23
          have H1 : (spec_GoodDiagram.l0 kj4 t136 (t136.length : Int) 0 a0_0 l0_1 a0_2) = some r := by rw [if_neg (show ¬ (false = true) by decide)] at H; exact H
          clear H
          have H := H1
          clear H1
          have H' := Aside0.mk H
          clear H
          have hnb24 := NB140_130.out
          have hnc24 := NB130_140.out
          have hcz25_0 := cq_ BK140.out 0 (.int .i64 t135)
          have hcz25_1 := cq_ BK140.out 1 (.slice Ao15 t136.length co15)
          have hcz25_2 := cq_ BK140.out 2 (.int .i64 t139)
          have hfz25_0 := blk_frozen BK140.out 0
          have hfz25_1 := blk_frozen BK140.out 1
          have hfz25_2 := blk_frozen BK140.out 2
          go_wp2
          repeat (go_quiet (fail); try go_wp2)
          go_loopg [36] kj4 (fun kq v36 w' => ∃ (x36_2 : Int), v36 = .int .i64 x36_2 ∧ Aside0 (spec_GoodDiagram.l0 kq t136 (t136.length : Int) x36_2 a0_0 l0_1 a0_2 = some r) ∧ Aside0 (kq ≤ kj4) ∧ Aside0 (Kd.R k75 75 w' w.heap.size (fun _ => True) (.slice Ao15 t136.length co15) t136) ∧ Aside0 (Kd.R k75 75 w' w.heap.size (fun _ => True) (.slice Ao15 t136.length co15) t136) ∧ Aside0 (w'.heap[gb130]? = some (.cells #[.int .i64 a0_0, (.slice A0_1 l0_1.length c0_1), .int .i64 a0_2] 30 (0, 0))) ∧ Aside0 (w'.heap[gb140]? = some (.cells #[.int .i64 t135, (.slice Ao15 t136.length co15), .int .i64 t139] 30 (0, 0))) ∧ Aside0 (Below w.heap.size w w'))
          case atStart => exact ⟨(0), (by first | rfl | (simp; done) | (simp [*]; done)), H', ⟨Nat.le_refl _⟩, ⟨rq_ HO_141001.out⟩, ⟨rq_ HO_141001.out⟩, ⟨bk_ BK130.out⟩, ⟨bk_ BK140.out⟩, ⟨bq_⟩⟩
          case round =>
            clear H'
            try clear c1
            try clear c2
            try clear p2
            try clear c3
            try clear c4
            try clear c13
            try clear c16
            try clear c16b0
            try clear c16b1
            try clear c17
            try clear c20
            try clear c23
            try clear c24
            try clear hcz14_0
            try clear hcz14_1
            try clear hcz14_2
            try clear hcz18_0
            try clear hcz18_1
            try clear hcz18_2
            try clear hcz19_0
            try clear hcz19_1
            try clear hcz19_2
            try clear hcz21_0
            try clear hcz21_1
            try clear hcz21_2
            try clear hcz22_0
            try clear hcz22_1
            try clear hcz22_2
            try clear hcz25_0
            try clear hcz25_1
            try clear hcz25_2
            try clear hcz7_0
            try clear hcz7_1
            try clear hcz7_2
            try clear hcz9_0
            try clear hcz9_1
            try clear hcz9_2
            try clear hfz14_0
            try clear hfz14_1
            try clear hfz14_2
            try clear hfz18_0
            try clear hfz18_1
            try clear hfz18_2
            try clear hfz19_0
            try clear hfz19_1
            try clear hfz19_2
            try clear hfz21_0
            try clear hfz21_1
            try clear hfz21_2
            try clear hfz22_0
            try clear hfz22_1
            try clear hfz22_2
            try clear hfz25_0
            try clear hfz25_1
            try clear hfz25_2
            try clear hfz7_0
            try clear hfz7_1
            try clear hfz7_2
            try clear hfz9_0
            try clear hfz9_1
            try clear hfz9_2
            try clear p2
            obtain ⟨x36_2, rfl, HA, HK2, HO_34, HO_141001, BK130, BK140, HB⟩ := hrel
            cases gk with
            | zero => exact absurd HA.out (by simp [spec_GoodDiagram.l0])
            | succ k2 =>
              have H := HA.out
              clear HA
              simp only [spec_GoodDiagram.l0] at H
              by_cases c26 : x36_2 < (t136.length : Int)
              · rw [if_pos c26] at H
                have c26b0 : decide (x36_2 < (t136.length : Int)) = true := decide_eq_true c26
                clear c26
                by_cases c27 : 0 ≤ x36_2
                · rw [if_pos c27] at H
                  have c27b0 : decide (0 ≤ x36_2) = true := decide_eq_true c27
                  clear c27
                  by_cases c28 : x36_2 < (t136.length : Int)
                  · rw [if_pos c28] at H
                    have c28b0 : decide (x36_2 < (t136.length : Int)) = true := decide_eq_true c28
                    clear c28
                    by_cases c29 : x36_2 < (l0_1.length : Int)
                    · rw [if_pos c29] at H
                      have c29b0 : decide (x36_2 < (l0_1.length : Int)) = true := decide_eq_true c29
                      clear c29
                      by_cases c30 : (!(((rd_T75 l0_1 x36_2).f0) == ((rd_T75 t136 x36_2).f0)) || (!(((rd_T75 l0_1 x36_2).f1) == ((rd_T75 t136 x36_2).f1)) || (!(((rd_T75 l0_1 x36_2).f2) == ((rd_T75 t136 x36_2).f2))))) = true
                      · rw [if_pos c30] at H
                        have c30b0 : (!(((rd_T75 l0_1 x36_2).f0) == ((rd_T75 t136 x36_2).f0)) || (!(((rd_T75 l0_1 x36_2).f1) == ((rd_T75 t136 x36_2).f1)) || (!(((rd_T75 l0_1 x36_2).f2) == ((rd_T75 t136 x36_2).f2))))) = true := c30
                        clear c30
                        obtain rfl := Option.some.inj H
                        have p141 : 0 ≤ (x36_2 : Int) := of_decide_eq_true (by first | (with_reducible assumption) | assumption)
                        have q141 : x36_2 < (t136.length : Int) := of_decide_eq_true (by first | (with_reducible assumption) | assumption)
                        obtain ⟨ad141, e141, hx141_0, hx141_1, hx141_2⟩ := at_T75 (Kd.R_reads' HO_34.out).2.2 x36_2 p141 q141
                        cases e141
                        replace p141 := eq_true p141
                        replace q141 := eq_true q141
                        go_wp2_with (first | ((with_reducible refine gate_dst (N := 7) rfl ?_); (try (refine gate_guard (by rfl) ?_; dsimp only)); refine boxq_ (N := 7) (cs := #[.int .i64 0, .int .i64 0, .int .i64 0]) (t := 75) ?_; intro gb142 hg w31 hbox hb; have n0_ := Aside0.mk (Kd.R_below (Kd.R_elderB (rq_ HO_34.out) gb142 (Nat.le_of_eq hg.symm)) hb); have n1_ := Aside0.mk (Kd.R_below (Kd.R_elderB (rq_ HO_141001.out) gb142 (Nat.le_of_eq hg.symm)) hb); have n2_ := Aside0.mk (blk_below (bk_ BK130.out) hb); have n3_ := Aside0.mk (blk_below (bk_ BK140.out) hb); have n4_ := Aside0.mk (below_step (bq_) hb); have n5_ := Aside0.mk (hbox); have n6_ := Aside0.mk ((by rw [hg]; exact (below_size (bq_)) : w.heap.size ≤ gb142)); have n7_ := Aside0.mk ((by rw [hg]; exact (below_size (bq_)) : w.heap.size ≤ gb142)); have n8_ := Aside0.mk ((by rw [hg]; exact Nat.ne_of_lt (blk_lt (bk_ BK130.out)) : gb130 ≠ gb142)); have n9_ := Aside0.mk ((by rw [hg]; exact Nat.ne_of_gt (blk_lt (bk_ BK130.out)) : gb142 ≠ gb130)); have n10_ := Aside0.mk ((by rw [hg]; exact Nat.ne_of_lt (blk_lt (bk_ BK140.out)) : gb140 ≠ gb142)); have n11_ := Aside0.mk ((by rw [hg]; exact Nat.ne_of_gt (blk_lt (bk_ BK140.out)) : gb142 ≠ gb140)); clear HO_34; clear HO_141001; clear BK130; clear BK140; clear HB; have HO_34 := n0_; have HO_141001 := n1_; have BK130 := n2_; have BK140 := n3_; have HB := n4_; have BK142 := n5_; have GW142 := n6_; have GE142 := n7_; have NB130_142 := n8_; have NB142_130 := n9_; have NB140_142 := n10_; have NB142_140 := n11_; clear n0_ n1_ n2_ n3_ n4_ n5_ n6_ n7_ n8_ n9_ n10_ n11_; clear hb hbox hg; have hnb32 := NB142_130.out; have hnc32 := NB130_142.out; have hnb33 := NB142_140.out; have hnc33 := NB140_142.out; have hcz34_0 := cq_ BK142.out 0 (.int .i64 0); have hcz34_1 := cq_ BK142.out 1 (.int .i64 0); have hcz34_2 := cq_ BK142.out 2 (.int .i64 0); have hfz34_0 := blk_frozen BK142.out 0; have hfz34_1 := blk_frozen BK142.out 1; have hfz34_2 := blk_frozen BK142.out 2; have hnb35 := NB130_140.out; have hnc35 := NB140_130.out; have hcz36_0 := cq_ BK130.out 0 (.int .i64 a0_0); have hcz36_1 := cq_ BK130.out 1 (.slice A0_1 l0_1.length c0_1); have hcz36_2 := cq_ BK130.out 2 (.int .i64 a0_2); have hfz36_0 := blk_frozen BK130.out 0; have hfz36_1 := blk_frozen BK130.out 1; have hfz36_2 := blk_frozen BK130.out 2; have p143 : 0 ≤ (x36_2 : Int) := of_decide_eq_true (by first | (with_reducible assumption) | assumption); have q143 : x36_2 < (l0_1.length : Int) := of_decide_eq_true (by first | (with_reducible assumption) | assumption); obtain ⟨ad143, e143, hx143_0, hx143_1, hx143_2⟩ := at_T75 HR0_1.out x36_2 p143 q143; cases e143; have hn143_0 : ad143.block ≠ gb142 := Nat.ne_of_lt (Nat.lt_of_lt_of_le (by have := World.block_lt_of_cell? _ _ hx143_0; first | rwa [add_block] at this | exact this) GW142.out); have hn143_1 : ad143.block ≠ gb142 := Nat.ne_of_lt (Nat.lt_of_lt_of_le (by have := World.block_lt_of_cell? _ _ hx143_0; first | rwa [add_block] at this | exact this) GW142.out); have hn143_2 : ad143.block ≠ gb142 := Nat.ne_of_lt (Nat.lt_of_lt_of_le (by have := World.block_lt_of_cell? _ _ hx143_0; first | rwa [add_block] at this | exact this) GW142.out); replace hx143_0 := (HB.out.cell (World.block_lt_of_cell? w _ hx143_0)).trans hx143_0; replace hx143_1 := (HB.out.cell (World.block_lt_of_cell? w _ hx143_1)).trans hx143_1; replace hx143_2 := (HB.out.cell (World.block_lt_of_cell? w _ hx143_2)).trans hx143_2; replace hx143_0 := (cell_far (p := ⟨gb142, 0, none⟩) (by first | (rw [add_block]; exact hn143_0) | (show (Addr.add _ _).block ≠ _; rw [add_block]; exact hn143_0) | exact hn143_0) (.int .i64 ((rd_T75 t136 x36_2).f0))).trans hx143_0; replace hx143_1 := (cell_far (p := ⟨gb142, 0, none⟩) (by first | (rw [add_block]; exact hn143_0) | (show (Addr.add _ _).block ≠ _; rw [add_block]; exact hn143_0) | exact hn143_0) (.int .i64 ((rd_T75 t136 x36_2).f0))).trans hx143_1; replace hx143_2 := (cell_far (p := ⟨gb142, 0, none⟩) (by first | (rw [add_block]; exact hn143_0) | (show (Addr.add _ _).block ≠ _; rw [add_block]; exact hn143_0) | exact hn143_0) (.int .i64 ((rd_T75 t136 x36_2).f0))).trans hx143_2; replace hx143_0 := (cell_far (p := ⟨gb142, 1, none⟩) (by first | (rw [add_block]; exact hn143_1) | (show (Addr.add _ _).block ≠ _; rw [add_block]; exact hn143_1) | exact hn143_1) (.int .i64 ((rd_T75 t136 x36_2).f1))).trans hx143_0; replace hx143_1 := (cell_far (p := ⟨gb142, 1, none⟩) (by first | (rw [add_block]; exact hn143_1) | (show (Addr.add _ _).block ≠ _; rw [add_block]; exact hn143_1) | exact hn143_1) (.int .i64 ((rd_T75 t136 x36_2).f1))).trans hx143_1; replace hx143_2 := (cell_far (p := ⟨gb142, 1, none⟩) (by first | (rw [add_block]; exact hn143_1) | (show (Addr.add _ _).block ≠ _; rw [add_block]; exact hn143_1) | exact hn143_1) (.int .i64 ((rd_T75 t136 x36_2).f1))).trans hx143_2; replace hx143_0 := (cell_far (p := ⟨gb142, 2, none⟩) (by first | (rw [add_block]; exact hn143_2) | (show (Addr.add _ _).block ≠ _; rw [add_block]; exact hn143_2) | exact hn143_2) (.int .i64 ((rd_T75 t136 x36_2).f2))).trans hx143_0; replace hx143_1 := (cell_far (p := ⟨gb142, 2, none⟩) (by first | (rw [add_block]; exact hn143_2) | (show (Addr.add _ _).block ≠ _; rw [add_block]; exact hn143_2) | exact hn143_2) (.int .i64 ((rd_T75 t136 x36_2).f2))).trans hx143_1; replace hx143_2 := (cell_far (p := ⟨gb142, 2, none⟩) (by first | (rw [add_block]; exact hn143_2) | (show (Addr.add _ _).block ≠ _; rw [add_block]; exact hn143_2) | exact hn143_2) (.int .i64 ((rd_T75 t136 x36_2).f2))).trans hx143_2; (try have hy143_0 := fun (n_ : Nat) => (show (((((w31.drewN n_).setCell ⟨gb142, 0, none⟩ (.int .i64 ((rd_T75 t136 x36_2).f0))).setCell ⟨gb142, 1, none⟩ (.int .i64 ((rd_T75 t136 x36_2).f1))).setCell ⟨gb142, 2, none⟩ (.int .i64 ((rd_T75 t136 x36_2).f2)))).cell? _ = some _ from hx143_0)); (try have hy143_1 := fun (n_ : Nat) => (show (((((w31.drewN n_).setCell ⟨gb142, 0, none⟩ (.int .i64 ((rd_T75 t136 x36_2).f0))).setCell ⟨gb142, 1, none⟩ (.int .i64 ((rd_T75 t136 x36_2).f1))).setCell ⟨gb142, 2, none⟩ (.int .i64 ((rd_T75 t136 x36_2).f2)))).cell? _ = some _ from hx143_1)); (try have hy143_2 := fun (n_ : Nat) => (show (((((w31.drewN n_).setCell ⟨gb142, 0, none⟩ (.int .i64 ((rd_T75 t136 x36_2).f0))).setCell ⟨gb142, 1, none⟩ (.int .i64 ((rd_T75 t136 x36_2).f1))).setCell ⟨gb142, 2, none⟩ (.int .i64 ((rd_T75 t136 x36_2).f2)))).cell? _ = some _ from hx143_2)); clear hn143_0; clear hn143_1; clear hn143_2; replace p143 := eq_true p143; replace q143 := eq_true q143))
                        repeat (go_quiet (first | ((with_reducible refine gate_dst (N := 7) rfl ?_); (try (refine gate_guard (by rfl) ?_; dsimp only)); refine boxq_ (N := 7) (cs := #[.int .i64 0, .int .i64 0, .int .i64 0]) (t := 75) ?_; intro gb142 hg w31 hbox hb; have n0_ := Aside0.mk (Kd.R_below (Kd.R_elderB (rq_ HO_34.out) gb142 (Nat.le_of_eq hg.symm)) hb); have n1_ := Aside0.mk (Kd.R_below (Kd.R_elderB (rq_ HO_141001.out) gb142 (Nat.le_of_eq hg.symm)) hb); have n2_ := Aside0.mk (blk_below (bk_ BK130.out) hb); have n3_ := Aside0.mk (blk_below (bk_ BK140.out) hb); have n4_ := Aside0.mk (below_step (bq_) hb); have n5_ := Aside0.mk (hbox); have n6_ := Aside0.mk ((by rw [hg]; exact (below_size (bq_)) : w.heap.size ≤ gb142)); have n7_ := Aside0.mk ((by rw [hg]; exact (below_size (bq_)) : w.heap.size ≤ gb142)); have n8_ := Aside0.mk ((by rw [hg]; exact Nat.ne_of_lt (blk_lt (bk_ BK130.out)) : gb130 ≠ gb142)); have n9_ := Aside0.mk ((by rw [hg]; exact Nat.ne_of_gt (blk_lt (bk_ BK130.out)) : gb142 ≠ gb130)); have n10_ := Aside0.mk ((by rw [hg]; exact Nat.ne_of_lt (blk_lt (bk_ BK140.out)) : gb140 ≠ gb142)); have n11_ := Aside0.mk ((by rw [hg]; exact Nat.ne_of_gt (blk_lt (bk_ BK140.out)) : gb142 ≠ gb140)); clear HO_34; clear HO_141001; clear BK130; clear BK140; clear HB; have HO_34 := n0_; have HO_141001 := n1_; have BK130 := n2_; have BK140 := n3_; have HB := n4_; have BK142 := n5_; have GW142 := n6_; have GE142 := n7_; have NB130_142 := n8_; have NB142_130 := n9_; have NB140_142 := n10_; have NB142_140 := n11_; clear n0_ n1_ n2_ n3_ n4_ n5_ n6_ n7_ n8_ n9_ n10_ n11_; clear hb hbox hg; have hnb32 := NB142_130.out; have hnc32 := NB130_142.out; have hnb33 := NB142_140.out; have hnc33 := NB140_142.out; have hcz34_0 := cq_ BK142.out 0 (.int .i64 0); have hcz34_1 := cq_ BK142.out 1 (.int .i64 0); have hcz34_2 := cq_ BK142.out 2 (.int .i64 0); have hfz34_0 := blk_frozen BK142.out 0; have hfz34_1 := blk_frozen BK142.out 1; have hfz34_2 := blk_frozen BK142.out 2; have hnb35 := NB130_140.out; have hnc35 := NB140_130.out; have hcz36_0 := cq_ BK130.out 0 (.int .i64 a0_0); have hcz36_1 := cq_ BK130.out 1 (.slice A0_1 l0_1.length c0_1); have hcz36_2 := cq_ BK130.out 2 (.int .i64 a0_2); have hfz36_0 := blk_frozen BK130.out 0; have hfz36_1 := blk_frozen BK130.out 1; have hfz36_2 := blk_frozen BK130.out 2; have p143 : 0 ≤ (x36_2 : Int) := of_decide_eq_true (by first | (with_reducible assumption) | assumption); have q143 : x36_2 < (l0_1.length : Int) := of_decide_eq_true (by first | (with_reducible assumption) | assumption); obtain ⟨ad143, e143, hx143_0, hx143_1, hx143_2⟩ := at_T75 HR0_1.out x36_2 p143 q143; cases e143; have hn143_0 : ad143.block ≠ gb142 := Nat.ne_of_lt (Nat.lt_of_lt_of_le (by have := World.block_lt_of_cell? _ _ hx143_0; first | rwa [add_block] at this | exact this) GW142.out); have hn143_1 : ad143.block ≠ gb142 := Nat.ne_of_lt (Nat.lt_of_lt_of_le (by have := World.block_lt_of_cell? _ _ hx143_0; first | rwa [add_block] at this | exact this) GW142.out); have hn143_2 : ad143.block ≠ gb142 := Nat.ne_of_lt (Nat.lt_of_lt_of_le (by have := World.block_lt_of_cell? _ _ hx143_0; first | rwa [add_block] at this | exact this) GW142.out); replace hx143_0 := (HB.out.cell (World.block_lt_of_cell? w _ hx143_0)).trans hx143_0; replace hx143_1 := (HB.out.cell (World.block_lt_of_cell? w _ hx143_1)).trans hx143_1; replace hx143_2 := (HB.out.cell (World.block_lt_of_cell? w _ hx143_2)).trans hx143_2; replace hx143_0 := (cell_far (p := ⟨gb142, 0, none⟩) (by first | (rw [add_block]; exact hn143_0) | (show (Addr.add _ _).block ≠ _; rw [add_block]; exact hn143_0) | exact hn143_0) (.int .i64 ((rd_T75 t136 x36_2).f0))).trans hx143_0; replace hx143_1 := (cell_far (p := ⟨gb142, 0, none⟩) (by first | (rw [add_block]; exact hn143_0) | (show (Addr.add _ _).block ≠ _; rw [add_block]; exact hn143_0) | exact hn143_0) (.int .i64 ((rd_T75 t136 x36_2).f0))).trans hx143_1; replace hx143_2 := (cell_far (p := ⟨gb142, 0, none⟩) (by first | (rw [add_block]; exact hn143_0) | (show (Addr.add _ _).block ≠ _; rw [add_block]; exact hn143_0) | exact hn143_0) (.int .i64 ((rd_T75 t136 x36_2).f0))).trans hx143_2; replace hx143_0 := (cell_far (p := ⟨gb142, 1, none⟩) (by first | (rw [add_block]; exact hn143_1) | (show (Addr.add _ _).block ≠ _; rw [add_block]; exact hn143_1) | exact hn143_1) (.int .i64 ((rd_T75 t136 x36_2).f1))).trans hx143_0; replace hx143_1 := (cell_far (p := ⟨gb142, 1, none⟩) (by first | (rw [add_block]; exact hn143_1) | (show (Addr.add _ _).block ≠ _; rw [add_block]; exact hn143_1) | exact hn143_1) (.int .i64 ((rd_T75 t136 x36_2).f1))).trans hx143_1; replace hx143_2 := (cell_far (p := ⟨gb142, 1, none⟩) (by first | (rw [add_block]; exact hn143_1) | (show (Addr.add _ _).block ≠ _; rw [add_block]; exact hn143_1) | exact hn143_1) (.int .i64 ((rd_T75 t136 x36_2).f1))).trans hx143_2; replace hx143_0 := (cell_far (p := ⟨gb142, 2, none⟩) (by first | (rw [add_block]; exact hn143_2) | (show (Addr.add _ _).block ≠ _; rw [add_block]; exact hn143_2) | exact hn143_2) (.int .i64 ((rd_T75 t136 x36_2).f2))).trans hx143_0; replace hx143_1 := (cell_far (p := ⟨gb142, 2, none⟩) (by first | (rw [add_block]; exact hn143_2) | (show (Addr.add _ _).block ≠ _; rw [add_block]; exact hn143_2) | exact hn143_2) (.int .i64 ((rd_T75 t136 x36_2).f2))).trans hx143_1; replace hx143_2 := (cell_far (p := ⟨gb142, 2, none⟩) (by first | (rw [add_block]; exact hn143_2) | (show (Addr.add _ _).block ≠ _; rw [add_block]; exact hn143_2) | exact hn143_2) (.int .i64 ((rd_T75 t136 x36_2).f2))).trans hx143_2; (try have hy143_0 := fun (n_ : Nat) => (show (((((w31.drewN n_).setCell ⟨gb142, 0, none⟩ (.int .i64 ((rd_T75 t136 x36_2).f0))).setCell ⟨gb142, 1, none⟩ (.int .i64 ((rd_T75 t136 x36_2).f1))).setCell ⟨gb142, 2, none⟩ (.int .i64 ((rd_T75 t136 x36_2).f2)))).cell? _ = some _ from hx143_0)); (try have hy143_1 := fun (n_ : Nat) => (show (((((w31.drewN n_).setCell ⟨gb142, 0, none⟩ (.int .i64 ((rd_T75 t136 x36_2).f0))).setCell ⟨gb142, 1, none⟩ (.int .i64 ((rd_T75 t136 x36_2).f1))).setCell ⟨gb142, 2, none⟩ (.int .i64 ((rd_T75 t136 x36_2).f2)))).cell? _ = some _ from hx143_1)); (try have hy143_2 := fun (n_ : Nat) => (show (((((w31.drewN n_).setCell ⟨gb142, 0, none⟩ (.int .i64 ((rd_T75 t136 x36_2).f0))).setCell ⟨gb142, 1, none⟩ (.int .i64 ((rd_T75 t136 x36_2).f1))).setCell ⟨gb142, 2, none⟩ (.int .i64 ((rd_T75 t136 x36_2).f2)))).cell? _ = some _ from hx143_2)); clear hn143_0; clear hn143_1; clear hn143_2; replace p143 := eq_true p143; replace q143 := eq_true q143)); try go_wp2_with (first | ((with_reducible refine gate_dst (N := 7) rfl ?_); (try (refine gate_guard (by rfl) ?_; dsimp only)); refine boxq_ (N := 7) (cs := #[.int .i64 0, .int .i64 0, .int .i64 0]) (t := 75) ?_; intro gb142 hg w31 hbox hb; have n0_ := Aside0.mk (Kd.R_below (Kd.R_elderB (rq_ HO_34.out) gb142 (Nat.le_of_eq hg.symm)) hb); have n1_ := Aside0.mk (Kd.R_below (Kd.R_elderB (rq_ HO_141001.out) gb142 (Nat.le_of_eq hg.symm)) hb); have n2_ := Aside0.mk (blk_below (bk_ BK130.out) hb); have n3_ := Aside0.mk (blk_below (bk_ BK140.out) hb); have n4_ := Aside0.mk (below_step (bq_) hb); have n5_ := Aside0.mk (hbox); have n6_ := Aside0.mk ((by rw [hg]; exact (below_size (bq_)) : w.heap.size ≤ gb142)); have n7_ := Aside0.mk ((by rw [hg]; exact (below_size (bq_)) : w.heap.size ≤ gb142)); have n8_ := Aside0.mk ((by rw [hg]; exact Nat.ne_of_lt (blk_lt (bk_ BK130.out)) : gb130 ≠ gb142)); have n9_ := Aside0.mk ((by rw [hg]; exact Nat.ne_of_gt (blk_lt (bk_ BK130.out)) : gb142 ≠ gb130)); have n10_ := Aside0.mk ((by rw [hg]; exact Nat.ne_of_lt (blk_lt (bk_ BK140.out)) : gb140 ≠ gb142)); have n11_ := Aside0.mk ((by rw [hg]; exact Nat.ne_of_gt (blk_lt (bk_ BK140.out)) : gb142 ≠ gb140)); clear HO_34; clear HO_141001; clear BK130; clear BK140; clear HB; have HO_34 := n0_; have HO_141001 := n1_; have BK130 := n2_; have BK140 := n3_; have HB := n4_; have BK142 := n5_; have GW142 := n6_; have GE142 := n7_; have NB130_142 := n8_; have NB142_130 := n9_; have NB140_142 := n10_; have NB142_140 := n11_; clear n0_ n1_ n2_ n3_ n4_ n5_ n6_ n7_ n8_ n9_ n10_ n11_; clear hb hbox hg; have hnb32 := NB142_130.out; have hnc32 := NB130_142.out; have hnb33 := NB142_140.out; have hnc33 := NB140_142.out; have hcz34_0 := cq_ BK142.out 0 (.int .i64 0); have hcz34_1 := cq_ BK142.out 1 (.int .i64 0); have hcz34_2 := cq_ BK142.out 2 (.int .i64 0); have hfz34_0 := blk_frozen BK142.out 0; have hfz34_1 := blk_frozen BK142.out 1; have hfz34_2 := blk_frozen BK142.out 2; have hnb35 := NB130_140.out; have hnc35 := NB140_130.out; have hcz36_0 := cq_ BK130.out 0 (.int .i64 a0_0); have hcz36_1 := cq_ BK130.out 1 (.slice A0_1 l0_1.length c0_1); have hcz36_2 := cq_ BK130.out 2 (.int .i64 a0_2); have hfz36_0 := blk_frozen BK130.out 0; have hfz36_1 := blk_frozen BK130.out 1; have hfz36_2 := blk_frozen BK130.out 2; have p143 : 0 ≤ (x36_2 : Int) := of_decide_eq_true (by first | (with_reducible assumption) | assumption); have q143 : x36_2 < (l0_1.length : Int) := of_decide_eq_true (by first | (with_reducible assumption) | assumption); obtain ⟨ad143, e143, hx143_0, hx143_1, hx143_2⟩ := at_T75 HR0_1.out x36_2 p143 q143; cases e143; have hn143_0 : ad143.block ≠ gb142 := Nat.ne_of_lt (Nat.lt_of_lt_of_le (by have := World.block_lt_of_cell? _ _ hx143_0; first | rwa [add_block] at this | exact this) GW142.out); have hn143_1 : ad143.block ≠ gb142 := Nat.ne_of_lt (Nat.lt_of_lt_of_le (by have := World.block_lt_of_cell? _ _ hx143_0; first | rwa [add_block] at this | exact this) GW142.out); have hn143_2 : ad143.block ≠ gb142 := Nat.ne_of_lt (Nat.lt_of_lt_of_le (by have := World.block_lt_of_cell? _ _ hx143_0; first | rwa [add_block] at this | exact this) GW142.out); replace hx143_0 := (HB.out.cell (World.block_lt_of_cell? w _ hx143_0)).trans hx143_0; replace hx143_1 := (HB.out.cell (World.block_lt_of_cell? w _ hx143_1)).trans hx143_1; replace hx143_2 := (HB.out.cell (World.block_lt_of_cell? w _ hx143_2)).trans hx143_2; replace hx143_0 := (cell_far (p := ⟨gb142, 0, none⟩) (by first | (rw [add_block]; exact hn143_0) | (show (Addr.add _ _).block ≠ _; rw [add_block]; exact hn143_0) | exact hn143_0) (.int .i64 ((rd_T75 t136 x36_2).f0))).trans hx143_0; replace hx143_1 := (cell_far (p := ⟨gb142, 0, none⟩) (by first | (rw [add_block]; exact hn143_0) | (show (Addr.add _ _).block ≠ _; rw [add_block]; exact hn143_0) | exact hn143_0) (.int .i64 ((rd_T75 t136 x36_2).f0))).trans hx143_1; replace hx143_2 := (cell_far (p := ⟨gb142, 0, none⟩) (by first | (rw [add_block]; exact hn143_0) | (show (Addr.add _ _).block ≠ _; rw [add_block]; exact hn143_0) | exact hn143_0) (.int .i64 ((rd_T75 t136 x36_2).f0))).trans hx143_2; replace hx143_0 := (cell_far (p := ⟨gb142, 1, none⟩) (by first | (rw [add_block]; exact hn143_1) | (show (Addr.add _ _).block ≠ _; rw [add_block]; exact hn143_1) | exact hn143_1) (.int .i64 ((rd_T75 t136 x36_2).f1))).trans hx143_0; replace hx143_1 := (cell_far (p := ⟨gb142, 1, none⟩) (by first | (rw [add_block]; exact hn143_1) | (show (Addr.add _ _).block ≠ _; rw [add_block]; exact hn143_1) | exact hn143_1) (.int .i64 ((rd_T75 t136 x36_2).f1))).trans hx143_1; replace hx143_2 := (cell_far (p := ⟨gb142, 1, none⟩) (by first | (rw [add_block]; exact hn143_1) | (show (Addr.add _ _).block ≠ _; rw [add_block]; exact hn143_1) | exact hn143_1) (.int .i64 ((rd_T75 t136 x36_2).f1))).trans hx143_2; replace hx143_0 := (cell_far (p := ⟨gb142, 2, none⟩) (by first | (rw [add_block]; exact hn143_2) | (show (Addr.add _ _).block ≠ _; rw [add_block]; exact hn143_2) | exact hn143_2) (.int .i64 ((rd_T75 t136 x36_2).f2))).trans hx143_0; replace hx143_1 := (cell_far (p := ⟨gb142, 2, none⟩) (by first | (rw [add_block]; exact hn143_2) | (show (Addr.add _ _).block ≠ _; rw [add_block]; exact hn143_2) | exact hn143_2) (.int .i64 ((rd_T75 t136 x36_2).f2))).trans hx143_1; replace hx143_2 := (cell_far (p := ⟨gb142, 2, none⟩) (by first | (rw [add_block]; exact hn143_2) | (show (Addr.add _ _).block ≠ _; rw [add_block]; exact hn143_2) | exact hn143_2) (.int .i64 ((rd_T75 t136 x36_2).f2))).trans hx143_2; (try have hy143_0 := fun (n_ : Nat) => (show (((((w31.drewN n_).setCell ⟨gb142, 0, none⟩ (.int .i64 ((rd_T75 t136 x36_2).f0))).setCell ⟨gb142, 1, none⟩ (.int .i64 ((rd_T75 t136 x36_2).f1))).setCell ⟨gb142, 2, none⟩ (.int .i64 ((rd_T75 t136 x36_2).f2)))).cell? _ = some _ from hx143_0)); (try have hy143_1 := fun (n_ : Nat) => (show (((((w31.drewN n_).setCell ⟨gb142, 0, none⟩ (.int .i64 ((rd_T75 t136 x36_2).f0))).setCell ⟨gb142, 1, none⟩ (.int .i64 ((rd_T75 t136 x36_2).f1))).setCell ⟨gb142, 2, none⟩ (.int .i64 ((rd_T75 t136 x36_2).f2)))).cell? _ = some _ from hx143_1)); (try have hy143_2 := fun (n_ : Nat) => (show (((((w31.drewN n_).setCell ⟨gb142, 0, none⟩ (.int .i64 ((rd_T75 t136 x36_2).f0))).setCell ⟨gb142, 1, none⟩ (.int .i64 ((rd_T75 t136 x36_2).f1))).setCell ⟨gb142, 2, none⟩ (.int .i64 ((rd_T75 t136 x36_2).f2)))).cell? _ = some _ from hx143_2)); clear hn143_0; clear hn143_1; clear hn143_2; replace p143 := eq_true p143; replace q143 := eq_true q143)))
                        go_ret
                        exact ⟨by first | rfl | (simp [errW_none, errW_some] <;> rfl) | (simp [*, errW_none, errW_some] <;> rfl), bq_⟩
                      · rw [if_neg c30] at H
                        have c30b0 : (!(((rd_T75 l0_1 x36_2).f0) == ((rd_T75 t136 x36_2).f0)) || (!(((rd_T75 l0_1 x36_2).f1) == ((rd_T75 t136 x36_2).f1)) || (!(((rd_T75 l0_1 x36_2).f2) == ((rd_T75 t136 x36_2).f2))))) = false := by simpa using c30
                        clear c30
                        have H' := Aside0.mk H
                        clear H
                        have p141 : 0 ≤ (x36_2 : Int) := of_decide_eq_true (by first | (with_reducible assumption) | assumption)
                        have q141 : x36_2 < (t136.length : Int) := of_decide_eq_true (by first | (with_reducible assumption) | assumption)
                        obtain ⟨ad141, e141, hx141_0, hx141_1, hx141_2⟩ := at_T75 (Kd.R_reads' HO_34.out).2.2 x36_2 p141 q141
                        cases e141
                        replace p141 := eq_true p141
                        replace q141 := eq_true q141
                        go_wp2_with (first | ((with_reducible refine gate_dst (N := 7) rfl ?_); (try (refine gate_guard (by rfl) ?_; dsimp only)); refine boxq_ (N := 7) (cs := #[.int .i64 0, .int .i64 0, .int .i64 0]) (t := 75) ?_; intro gb142 hg w37 hbox hb; have n0_ := Aside0.mk (Kd.R_below (Kd.R_elderB (rq_ HO_34.out) gb142 (Nat.le_of_eq hg.symm)) hb); have n1_ := Aside0.mk (Kd.R_below (Kd.R_elderB (rq_ HO_141001.out) gb142 (Nat.le_of_eq hg.symm)) hb); have n2_ := Aside0.mk (blk_below (bk_ BK130.out) hb); have n3_ := Aside0.mk (blk_below (bk_ BK140.out) hb); have n4_ := Aside0.mk (below_step (bq_) hb); have n5_ := Aside0.mk (hbox); have n6_ := Aside0.mk ((by rw [hg]; exact (below_size (bq_)) : w.heap.size ≤ gb142)); have n7_ := Aside0.mk ((by rw [hg]; exact (below_size (bq_)) : w.heap.size ≤ gb142)); have n8_ := Aside0.mk ((by rw [hg]; exact Nat.ne_of_lt (blk_lt (bk_ BK130.out)) : gb130 ≠ gb142)); have n9_ := Aside0.mk ((by rw [hg]; exact Nat.ne_of_gt (blk_lt (bk_ BK130.out)) : gb142 ≠ gb130)); have n10_ := Aside0.mk ((by rw [hg]; exact Nat.ne_of_lt (blk_lt (bk_ BK140.out)) : gb140 ≠ gb142)); have n11_ := Aside0.mk ((by rw [hg]; exact Nat.ne_of_gt (blk_lt (bk_ BK140.out)) : gb142 ≠ gb140)); clear HO_34; clear HO_141001; clear BK130; clear BK140; clear HB; have HO_34 := n0_; have HO_141001 := n1_; have BK130 := n2_; have BK140 := n3_; have HB := n4_; have BK142 := n5_; have GW142 := n6_; have GE142 := n7_; have NB130_142 := n8_; have NB142_130 := n9_; have NB140_142 := n10_; have NB142_140 := n11_; clear n0_ n1_ n2_ n3_ n4_ n5_ n6_ n7_ n8_ n9_ n10_ n11_; clear hb hbox hg; have hnb38 := NB142_130.out; have hnc38 := NB130_142.out; have hnb39 := NB142_140.out; have hnc39 := NB140_142.out; have hcz40_0 := cq_ BK142.out 0 (.int .i64 0); have hcz40_1 := cq_ BK142.out 1 (.int .i64 0); have hcz40_2 := cq_ BK142.out 2 (.int .i64 0); have hfz40_0 := blk_frozen BK142.out 0; have hfz40_1 := blk_frozen BK142.out 1; have hfz40_2 := blk_frozen BK142.out 2; have hnb41 := NB130_140.out; have hnc41 := NB140_130.out; have hcz42_0 := cq_ BK130.out 0 (.int .i64 a0_0); have hcz42_1 := cq_ BK130.out 1 (.slice A0_1 l0_1.length c0_1); have hcz42_2 := cq_ BK130.out 2 (.int .i64 a0_2); have hfz42_0 := blk_frozen BK130.out 0; have hfz42_1 := blk_frozen BK130.out 1; have hfz42_2 := blk_frozen BK130.out 2; have p143 : 0 ≤ (x36_2 : Int) := of_decide_eq_true (by first | (with_reducible assumption) | assumption); have q143 : x36_2 < (l0_1.length : Int) := of_decide_eq_true (by first | (with_reducible assumption) | assumption); obtain ⟨ad143, e143, hx143_0, hx143_1, hx143_2⟩ := at_T75 HR0_1.out x36_2 p143 q143; cases e143; have hn143_0 : ad143.block ≠ gb142 := Nat.ne_of_lt (Nat.lt_of_lt_of_le (by have := World.block_lt_of_cell? _ _ hx143_0; first | rwa [add_block] at this | exact this) GW142.out); have hn143_1 : ad143.block ≠ gb142 := Nat.ne_of_lt (Nat.lt_of_lt_of_le (by have := World.block_lt_of_cell? _ _ hx143_0; first | rwa [add_block] at this | exact this) GW142.out); have hn143_2 : ad143.block ≠ gb142 := Nat.ne_of_lt (Nat.lt_of_lt_of_le (by have := World.block_lt_of_cell? _ _ hx143_0; first | rwa [add_block] at this | exact this) GW142.out); replace hx143_0 := (HB.out.cell (World.block_lt_of_cell? w _ hx143_0)).trans hx143_0; replace hx143_1 := (HB.out.cell (World.block_lt_of_cell? w _ hx143_1)).trans hx143_1; replace hx143_2 := (HB.out.cell (World.block_lt_of_cell? w _ hx143_2)).trans hx143_2; replace hx143_0 := (cell_far (p := ⟨gb142, 0, none⟩) (by first | (rw [add_block]; exact hn143_0) | (show (Addr.add _ _).block ≠ _; rw [add_block]; exact hn143_0) | exact hn143_0) (.int .i64 ((rd_T75 t136 x36_2).f0))).trans hx143_0; replace hx143_1 := (cell_far (p := ⟨gb142, 0, none⟩) (by first | (rw [add_block]; exact hn143_0) | (show (Addr.add _ _).block ≠ _; rw [add_block]; exact hn143_0) | exact hn143_0) (.int .i64 ((rd_T75 t136 x36_2).f0))).trans hx143_1; replace hx143_2 := (cell_far (p := ⟨gb142, 0, none⟩) (by first | (rw [add_block]; exact hn143_0) | (show (Addr.add _ _).block ≠ _; rw [add_block]; exact hn143_0) | exact hn143_0) (.int .i64 ((rd_T75 t136 x36_2).f0))).trans hx143_2; replace hx143_0 := (cell_far (p := ⟨gb142, 1, none⟩) (by first | (rw [add_block]; exact hn143_1) | (show (Addr.add _ _).block ≠ _; rw [add_block]; exact hn143_1) | exact hn143_1) (.int .i64 ((rd_T75 t136 x36_2).f1))).trans hx143_0; replace hx143_1 := (cell_far (p := ⟨gb142, 1, none⟩) (by first | (rw [add_block]; exact hn143_1) | (show (Addr.add _ _).block ≠ _; rw [add_block]; exact hn143_1) | exact hn143_1) (.int .i64 ((rd_T75 t136 x36_2).f1))).trans hx143_1; replace hx143_2 := (cell_far (p := ⟨gb142, 1, none⟩) (by first | (rw [add_block]; exact hn143_1) | (show (Addr.add _ _).block ≠ _; rw [add_block]; exact hn143_1) | exact hn143_1) (.int .i64 ((rd_T75 t136 x36_2).f1))).trans hx143_2; replace hx143_0 := (cell_far (p := ⟨gb142, 2, none⟩) (by first | (rw [add_block]; exact hn143_2) | (show (Addr.add _ _).block ≠ _; rw [add_block]; exact hn143_2) | exact hn143_2) (.int .i64 ((rd_T75 t136 x36_2).f2))).trans hx143_0; replace hx143_1 := (cell_far (p := ⟨gb142, 2, none⟩) (by first | (rw [add_block]; exact hn143_2) | (show (Addr.add _ _).block ≠ _; rw [add_block]; exact hn143_2) | exact hn143_2) (.int .i64 ((rd_T75 t136 x36_2).f2))).trans hx143_1; replace hx143_2 := (cell_far (p := ⟨gb142, 2, none⟩) (by first | (rw [add_block]; exact hn143_2) | (show (Addr.add _ _).block ≠ _; rw [add_block]; exact hn143_2) | exact hn143_2) (.int .i64 ((rd_T75 t136 x36_2).f2))).trans hx143_2; (try have hy143_0 := fun (n_ : Nat) => (show (((((w37.drewN n_).setCell ⟨gb142, 0, none⟩ (.int .i64 ((rd_T75 t136 x36_2).f0))).setCell ⟨gb142, 1, none⟩ (.int .i64 ((rd_T75 t136 x36_2).f1))).setCell ⟨gb142, 2, none⟩ (.int .i64 ((rd_T75 t136 x36_2).f2)))).cell? _ = some _ from hx143_0)); (try have hy143_1 := fun (n_ : Nat) => (show (((((w37.drewN n_).setCell ⟨gb142, 0, none⟩ (.int .i64 ((rd_T75 t136 x36_2).f0))).setCell ⟨gb142, 1, none⟩ (.int .i64 ((rd_T75 t136 x36_2).f1))).setCell ⟨gb142, 2, none⟩ (.int .i64 ((rd_T75 t136 x36_2).f2)))).cell? _ = some _ from hx143_1)); (try have hy143_2 := fun (n_ : Nat) => (show (((((w37.drewN n_).setCell ⟨gb142, 0, none⟩ (.int .i64 ((rd_T75 t136 x36_2).f0))).setCell ⟨gb142, 1, none⟩ (.int .i64 ((rd_T75 t136 x36_2).f1))).setCell ⟨gb142, 2, none⟩ (.int .i64 ((rd_T75 t136 x36_2).f2)))).cell? _ = some _ from hx143_2)); clear hn143_0; clear hn143_1; clear hn143_2; replace p143 := eq_true p143; replace q143 := eq_true q143))
                        repeat (go_quiet (first | ((with_reducible refine gate_dst (N := 7) rfl ?_); (try (refine gate_guard (by rfl) ?_; dsimp only)); refine boxq_ (N := 7) (cs := #[.int .i64 0, .int .i64 0, .int .i64 0]) (t := 75) ?_; intro gb142 hg w37 hbox hb; have n0_ := Aside0.mk (Kd.R_below (Kd.R_elderB (rq_ HO_34.out) gb142 (Nat.le_of_eq hg.symm)) hb); have n1_ := Aside0.mk (Kd.R_below (Kd.R_elderB (rq_ HO_141001.out) gb142 (Nat.le_of_eq hg.symm)) hb); have n2_ := Aside0.mk (blk_below (bk_ BK130.out) hb); have n3_ := Aside0.mk (blk_below (bk_ BK140.out) hb); have n4_ := Aside0.mk (below_step (bq_) hb); have n5_ := Aside0.mk (hbox); have n6_ := Aside0.mk ((by rw [hg]; exact (below_size (bq_)) : w.heap.size ≤ gb142)); have n7_ := Aside0.mk ((by rw [hg]; exact (below_size (bq_)) : w.heap.size ≤ gb142)); have n8_ := Aside0.mk ((by rw [hg]; exact Nat.ne_of_lt (blk_lt (bk_ BK130.out)) : gb130 ≠ gb142)); have n9_ := Aside0.mk ((by rw [hg]; exact Nat.ne_of_gt (blk_lt (bk_ BK130.out)) : gb142 ≠ gb130)); have n10_ := Aside0.mk ((by rw [hg]; exact Nat.ne_of_lt (blk_lt (bk_ BK140.out)) : gb140 ≠ gb142)); have n11_ := Aside0.mk ((by rw [hg]; exact Nat.ne_of_gt (blk_lt (bk_ BK140.out)) : gb142 ≠ gb140)); clear HO_34; clear HO_141001; clear BK130; clear BK140; clear HB; have HO_34 := n0_; have HO_141001 := n1_; have BK130 := n2_; have BK140 := n3_; have HB := n4_; have BK142 := n5_; have GW142 := n6_; have GE142 := n7_; have NB130_142 := n8_; have NB142_130 := n9_; have NB140_142 := n10_; have NB142_140 := n11_; clear n0_ n1_ n2_ n3_ n4_ n5_ n6_ n7_ n8_ n9_ n10_ n11_; clear hb hbox hg; have hnb38 := NB142_130.out; have hnc38 := NB130_142.out; have hnb39 := NB142_140.out; have hnc39 := NB140_142.out; have hcz40_0 := cq_ BK142.out 0 (.int .i64 0); have hcz40_1 := cq_ BK142.out 1 (.int .i64 0); have hcz40_2 := cq_ BK142.out 2 (.int .i64 0); have hfz40_0 := blk_frozen BK142.out 0; have hfz40_1 := blk_frozen BK142.out 1; have hfz40_2 := blk_frozen BK142.out 2; have hnb41 := NB130_140.out; have hnc41 := NB140_130.out; have hcz42_0 := cq_ BK130.out 0 (.int .i64 a0_0); have hcz42_1 := cq_ BK130.out 1 (.slice A0_1 l0_1.length c0_1); have hcz42_2 := cq_ BK130.out 2 (.int .i64 a0_2); have hfz42_0 := blk_frozen BK130.out 0; have hfz42_1 := blk_frozen BK130.out 1; have hfz42_2 := blk_frozen BK130.out 2; have p143 : 0 ≤ (x36_2 : Int) := of_decide_eq_true (by first | (with_reducible assumption) | assumption); have q143 : x36_2 < (l0_1.length : Int) := of_decide_eq_true (by first | (with_reducible assumption) | assumption); obtain ⟨ad143, e143, hx143_0, hx143_1, hx143_2⟩ := at_T75 HR0_1.out x36_2 p143 q143; cases e143; have hn143_0 : ad143.block ≠ gb142 := Nat.ne_of_lt (Nat.lt_of_lt_of_le (by have := World.block_lt_of_cell? _ _ hx143_0; first | rwa [add_block] at this | exact this) GW142.out); have hn143_1 : ad143.block ≠ gb142 := Nat.ne_of_lt (Nat.lt_of_lt_of_le (by have := World.block_lt_of_cell? _ _ hx143_0; first | rwa [add_block] at this | exact this) GW142.out); have hn143_2 : ad143.block ≠ gb142 := Nat.ne_of_lt (Nat.lt_of_lt_of_le (by have := World.block_lt_of_cell? _ _ hx143_0; first | rwa [add_block] at this | exact this) GW142.out); replace hx143_0 := (HB.out.cell (World.block_lt_of_cell? w _ hx143_0)).trans hx143_0; replace hx143_1 := (HB.out.cell (World.block_lt_of_cell? w _ hx143_1)).trans hx143_1; replace hx143_2 := (HB.out.cell (World.block_lt_of_cell? w _ hx143_2)).trans hx143_2; replace hx143_0 := (cell_far (p := ⟨gb142, 0, none⟩) (by first | (rw [add_block]; exact hn143_0) | (show (Addr.add _ _).block ≠ _; rw [add_block]; exact hn143_0) | exact hn143_0) (.int .i64 ((rd_T75 t136 x36_2).f0))).trans hx143_0; replace hx143_1 := (cell_far (p := ⟨gb142, 0, none⟩) (by first | (rw [add_block]; exact hn143_0) | (show (Addr.add _ _).block ≠ _; rw [add_block]; exact hn143_0) | exact hn143_0) (.int .i64 ((rd_T75 t136 x36_2).f0))).trans hx143_1; replace hx143_2 := (cell_far (p := ⟨gb142, 0, none⟩) (by first | (rw [add_block]; exact hn143_0) | (show (Addr.add _ _).block ≠ _; rw [add_block]; exact hn143_0) | exact hn143_0) (.int .i64 ((rd_T75 t136 x36_2).f0))).trans hx143_2; replace hx143_0 := (cell_far (p := ⟨gb142, 1, none⟩) (by first | (rw [add_block]; exact hn143_1) | (show (Addr.add _ _).block ≠ _; rw [add_block]; exact hn143_1) | exact hn143_1) (.int .i64 ((rd_T75 t136 x36_2).f1))).trans hx143_0; replace hx143_1 := (cell_far (p := ⟨gb142, 1, none⟩) (by first | (rw [add_block]; exact hn143_1) | (show (Addr.add _ _).block ≠ _; rw [add_block]; exact hn143_1) | exact hn143_1) (.int .i64 ((rd_T75 t136 x36_2).f1))).trans hx143_1; replace hx143_2 := (cell_far (p := ⟨gb142, 1, none⟩) (by first | (rw [add_block]; exact hn143_1) | (show (Addr.add _ _).block ≠ _; rw [add_block]; exact hn143_1) | exact hn143_1) (.int .i64 ((rd_T75 t136 x36_2).f1))).trans hx143_2; replace hx143_0 := (cell_far (p := ⟨gb142, 2, none⟩) (by first | (rw [add_block]; exact hn143_2) | (show (Addr.add _ _).block ≠ _; rw [add_block]; exact hn143_2) | exact hn143_2) (.int .i64 ((rd_T75 t136 x36_2).f2))).trans hx143_0; replace hx143_1 := (cell_far (p := ⟨gb142, 2, none⟩) (by first | (rw [add_block]; exact hn143_2) | (show (Addr.add _ _).block ≠ _; rw [add_block]; exact hn143_2) | exact hn143_2) (.int .i64 ((rd_T75 t136 x36_2).f2))).trans hx143_1; replace hx143_2 := (cell_far (p := ⟨gb142, 2, none⟩) (by first | (rw [add_block]; exact hn143_2) | (show (Addr.add _ _).block ≠ _; rw [add_block]; exact hn143_2) | exact hn143_2) (.int .i64 ((rd_T75 t136 x36_2).f2))).trans hx143_2; (try have hy143_0 := fun (n_ : Nat) => (show (((((w37.drewN n_).setCell ⟨gb142, 0, none⟩ (.int .i64 ((rd_T75 t136 x36_2).f0))).setCell ⟨gb142, 1, none⟩ (.int .i64 ((rd_T75 t136 x36_2).f1))).setCell ⟨gb142, 2, none⟩ (.int .i64 ((rd_T75 t136 x36_2).f2)))).cell? _ = some _ from hx143_0)); (try have hy143_1 := fun (n_ : Nat) => (show (((((w37.drewN n_).setCell ⟨gb142, 0, none⟩ (.int .i64 ((rd_T75 t136 x36_2).f0))).setCell ⟨gb142, 1, none⟩ (.int .i64 ((rd_T75 t136 x36_2).f1))).setCell ⟨gb142, 2, none⟩ (.int .i64 ((rd_T75 t136 x36_2).f2)))).cell? _ = some _ from hx143_1)); (try have hy143_2 := fun (n_ : Nat) => (show (((((w37.drewN n_).setCell ⟨gb142, 0, none⟩ (.int .i64 ((rd_T75 t136 x36_2).f0))).setCell ⟨gb142, 1, none⟩ (.int .i64 ((rd_T75 t136 x36_2).f1))).setCell ⟨gb142, 2, none⟩ (.int .i64 ((rd_T75 t136 x36_2).f2)))).cell? _ = some _ from hx143_2)); clear hn143_0; clear hn143_1; clear hn143_2; replace p143 := eq_true p143; replace q143 := eq_true q143)); try go_wp2_with (first | ((with_reducible refine gate_dst (N := 7) rfl ?_); (try (refine gate_guard (by rfl) ?_; dsimp only)); refine boxq_ (N := 7) (cs := #[.int .i64 0, .int .i64 0, .int .i64 0]) (t := 75) ?_; intro gb142 hg w37 hbox hb; have n0_ := Aside0.mk (Kd.R_below (Kd.R_elderB (rq_ HO_34.out) gb142 (Nat.le_of_eq hg.symm)) hb); have n1_ := Aside0.mk (Kd.R_below (Kd.R_elderB (rq_ HO_141001.out) gb142 (Nat.le_of_eq hg.symm)) hb); have n2_ := Aside0.mk (blk_below (bk_ BK130.out) hb); have n3_ := Aside0.mk (blk_below (bk_ BK140.out) hb); have n4_ := Aside0.mk (below_step (bq_) hb); have n5_ := Aside0.mk (hbox); have n6_ := Aside0.mk ((by rw [hg]; exact (below_size (bq_)) : w.heap.size ≤ gb142)); have n7_ := Aside0.mk ((by rw [hg]; exact (below_size (bq_)) : w.heap.size ≤ gb142)); have n8_ := Aside0.mk ((by rw [hg]; exact Nat.ne_of_lt (blk_lt (bk_ BK130.out)) : gb130 ≠ gb142)); have n9_ := Aside0.mk ((by rw [hg]; exact Nat.ne_of_gt (blk_lt (bk_ BK130.out)) : gb142 ≠ gb130)); have n10_ := Aside0.mk ((by rw [hg]; exact Nat.ne_of_lt (blk_lt (bk_ BK140.out)) : gb140 ≠ gb142)); have n11_ := Aside0.mk ((by rw [hg]; exact Nat.ne_of_gt (blk_lt (bk_ BK140.out)) : gb142 ≠ gb140)); clear HO_34; clear HO_141001; clear BK130; clear BK140; clear HB; have HO_34 := n0_; have HO_141001 := n1_; have BK130 := n2_; have BK140 := n3_; have HB := n4_; have BK142 := n5_; have GW142 := n6_; have GE142 := n7_; have NB130_142 := n8_; have NB142_130 := n9_; have NB140_142 := n10_; have NB142_140 := n11_; clear n0_ n1_ n2_ n3_ n4_ n5_ n6_ n7_ n8_ n9_ n10_ n11_; clear hb hbox hg; have hnb38 := NB142_130.out; have hnc38 := NB130_142.out; have hnb39 := NB142_140.out; have hnc39 := NB140_142.out; have hcz40_0 := cq_ BK142.out 0 (.int .i64 0); have hcz40_1 := cq_ BK142.out 1 (.int .i64 0); have hcz40_2 := cq_ BK142.out 2 (.int .i64 0); have hfz40_0 := blk_frozen BK142.out 0; have hfz40_1 := blk_frozen BK142.out 1; have hfz40_2 := blk_frozen BK142.out 2; have hnb41 := NB130_140.out; have hnc41 := NB140_130.out; have hcz42_0 := cq_ BK130.out 0 (.int .i64 a0_0); have hcz42_1 := cq_ BK130.out 1 (.slice A0_1 l0_1.length c0_1); have hcz42_2 := cq_ BK130.out 2 (.int .i64 a0_2); have hfz42_0 := blk_frozen BK130.out 0; have hfz42_1 := blk_frozen BK130.out 1; have hfz42_2 := blk_frozen BK130.out 2; have p143 : 0 ≤ (x36_2 : Int) := of_decide_eq_true (by first | (with_reducible assumption) | assumption); have q143 : x36_2 < (l0_1.length : Int) := of_decide_eq_true (by first | (with_reducible assumption) | assumption); obtain ⟨ad143, e143, hx143_0, hx143_1, hx143_2⟩ := at_T75 HR0_1.out x36_2 p143 q143; cases e143; have hn143_0 : ad143.block ≠ gb142 := Nat.ne_of_lt (Nat.lt_of_lt_of_le (by have := World.block_lt_of_cell? _ _ hx143_0; first | rwa [add_block] at this | exact this) GW142.out); have hn143_1 : ad143.block ≠ gb142 := Nat.ne_of_lt (Nat.lt_of_lt_of_le (by have := World.block_lt_of_cell? _ _ hx143_0; first | rwa [add_block] at this | exact this) GW142.out); have hn143_2 : ad143.block ≠ gb142 := Nat.ne_of_lt (Nat.lt_of_lt_of_le (by have := World.block_lt_of_cell? _ _ hx143_0; first | rwa [add_block] at this | exact this) GW142.out); replace hx143_0 := (HB.out.cell (World.block_lt_of_cell? w _ hx143_0)).trans hx143_0; replace hx143_1 := (HB.out.cell (World.block_lt_of_cell? w _ hx143_1)).trans hx143_1; replace hx143_2 := (HB.out.cell (World.block_lt_of_cell? w _ hx143_2)).trans hx143_2; replace hx143_0 := (cell_far (p := ⟨gb142, 0, none⟩) (by first | (rw [add_block]; exact hn143_0) | (show (Addr.add _ _).block ≠ _; rw [add_block]; exact hn143_0) | exact hn143_0) (.int .i64 ((rd_T75 t136 x36_2).f0))).trans hx143_0; replace hx143_1 := (cell_far (p := ⟨gb142, 0, none⟩) (by first | (rw [add_block]; exact hn143_0) | (show (Addr.add _ _).block ≠ _; rw [add_block]; exact hn143_0) | exact hn143_0) (.int .i64 ((rd_T75 t136 x36_2).f0))).trans hx143_1; replace hx143_2 := (cell_far (p := ⟨gb142, 0, none⟩) (by first | (rw [add_block]; exact hn143_0) | (show (Addr.add _ _).block ≠ _; rw [add_block]; exact hn143_0) | exact hn143_0) (.int .i64 ((rd_T75 t136 x36_2).f0))).trans hx143_2; replace hx143_0 := (cell_far (p := ⟨gb142, 1, none⟩) (by first | (rw [add_block]; exact hn143_1) | (show (Addr.add _ _).block ≠ _; rw [add_block]; exact hn143_1) | exact hn143_1) (.int .i64 ((rd_T75 t136 x36_2).f1))).trans hx143_0; replace hx143_1 := (cell_far (p := ⟨gb142, 1, none⟩) (by first | (rw [add_block]; exact hn143_1) | (show (Addr.add _ _).block ≠ _; rw [add_block]; exact hn143_1) | exact hn143_1) (.int .i64 ((rd_T75 t136 x36_2).f1))).trans hx143_1; replace hx143_2 := (cell_far (p := ⟨gb142, 1, none⟩) (by first | (rw [add_block]; exact hn143_1) | (show (Addr.add _ _).block ≠ _; rw [add_block]; exact hn143_1) | exact hn143_1) (.int .i64 ((rd_T75 t136 x36_2).f1))).trans hx143_2; replace hx143_0 := (cell_far (p := ⟨gb142, 2, none⟩) (by first | (rw [add_block]; exact hn143_2) | (show (Addr.add _ _).block ≠ _; rw [add_block]; exact hn143_2) | exact hn143_2) (.int .i64 ((rd_T75 t136 x36_2).f2))).trans hx143_0; replace hx143_1 := (cell_far (p := ⟨gb142, 2, none⟩) (by first | (rw [add_block]; exact hn143_2) | (show (Addr.add _ _).block ≠ _; rw [add_block]; exact hn143_2) | exact hn143_2) (.int .i64 ((rd_T75 t136 x36_2).f2))).trans hx143_1; replace hx143_2 := (cell_far (p := ⟨gb142, 2, none⟩) (by first | (rw [add_block]; exact hn143_2) | (show (Addr.add _ _).block ≠ _; rw [add_block]; exact hn143_2) | exact hn143_2) (.int .i64 ((rd_T75 t136 x36_2).f2))).trans hx143_2; (try have hy143_0 := fun (n_ : Nat) => (show (((((w37.drewN n_).setCell ⟨gb142, 0, none⟩ (.int .i64 ((rd_T75 t136 x36_2).f0))).setCell ⟨gb142, 1, none⟩ (.int .i64 ((rd_T75 t136 x36_2).f1))).setCell ⟨gb142, 2, none⟩ (.int .i64 ((rd_T75 t136 x36_2).f2)))).cell? _ = some _ from hx143_0)); (try have hy143_1 := fun (n_ : Nat) => (show (((((w37.drewN n_).setCell ⟨gb142, 0, none⟩ (.int .i64 ((rd_T75 t136 x36_2).f0))).setCell ⟨gb142, 1, none⟩ (.int .i64 ((rd_T75 t136 x36_2).f1))).setCell ⟨gb142, 2, none⟩ (.int .i64 ((rd_T75 t136 x36_2).f2)))).cell? _ = some _ from hx143_1)); (try have hy143_2 := fun (n_ : Nat) => (show (((((w37.drewN n_).setCell ⟨gb142, 0, none⟩ (.int .i64 ((rd_T75 t136 x36_2).f0))).setCell ⟨gb142, 1, none⟩ (.int .i64 ((rd_T75 t136 x36_2).f1))).setCell ⟨gb142, 2, none⟩ (.int .i64 ((rd_T75 t136 x36_2).f2)))).cell? _ = some _ from hx143_2)); clear hn143_0; clear hn143_1; clear hn143_2; replace p143 := eq_true p143; replace q143 := eq_true q143)))
                        go_roundg k2
                        case measure => have := HJ4.out; have := HK2.out; omega
                        case rel => exact ⟨(wrap64 (x36_2 + 1)), (by first | rfl | (simp; done) | (simp [*]; done)), H', ⟨by have := HJ4.out; have := HK2.out; omega⟩, ⟨rq_ (Kd.R_mono (Kd.R_far (p := ⟨gb142, 2, none⟩) (Kd.R_far (p := ⟨gb142, 1, none⟩) (Kd.R_far (p := ⟨gb142, 0, none⟩) (Kd.R_mono HO_34.out (fun k_ hk => (⟨hk, hk.2⟩ : _ ∧ k_ ≠ gb142))) (fun _ hk => hk.2) (.int .i64 ((rd_T75 t136 x36_2).f0))) (fun _ hk => hk.2) (.int .i64 ((rd_T75 t136 x36_2).f1))) (fun _ hk => hk.2) (.int .i64 ((rd_T75 t136 x36_2).f2))) (fun _ hk => trivial))⟩, ⟨rq_ (Kd.R_mono (Kd.R_far (p := ⟨gb142, 2, none⟩) (Kd.R_far (p := ⟨gb142, 1, none⟩) (Kd.R_far (p := ⟨gb142, 0, none⟩) (Kd.R_mono HO_141001.out (fun k_ hk => (⟨hk, hk.2⟩ : _ ∧ k_ ≠ gb142))) (fun _ hk => hk.2) (.int .i64 ((rd_T75 t136 x36_2).f0))) (fun _ hk => hk.2) (.int .i64 ((rd_T75 t136 x36_2).f1))) (fun _ hk => hk.2) (.int .i64 ((rd_T75 t136 x36_2).f2))) (fun _ hk => trivial))⟩, ⟨by (with_reducible repeat (first | refine blk_drewN ?_ _ | refine blk_drew ?_ | refine blk_alloc ?_ _)); refine blk_far ?_ NB130_142.out _; (with_reducible repeat (first | refine blk_drewN ?_ _ | refine blk_drew ?_ | refine blk_alloc ?_ _)); refine blk_far ?_ NB130_142.out _; (with_reducible repeat (first | refine blk_drewN ?_ _ | refine blk_drew ?_ | refine blk_alloc ?_ _)); refine blk_far ?_ NB130_142.out _; (with_reducible repeat (first | refine blk_drewN ?_ _ | refine blk_drew ?_ | refine blk_alloc ?_ _)); exact BK130.out⟩, ⟨by (with_reducible repeat (first | refine blk_drewN ?_ _ | refine blk_drew ?_ | refine blk_alloc ?_ _)); refine blk_far ?_ NB140_142.out _; (with_reducible repeat (first | refine blk_drewN ?_ _ | refine blk_drew ?_ | refine blk_alloc ?_ _)); refine blk_far ?_ NB140_142.out _; (with_reducible repeat (first | refine blk_drewN ?_ _ | refine blk_drew ?_ | refine blk_alloc ?_ _)); refine blk_far ?_ NB140_142.out _; (with_reducible repeat (first | refine blk_drewN ?_ _ | refine blk_drew ?_ | refine blk_alloc ?_ _)); exact BK140.out⟩, ⟨bq_⟩⟩
                    · rw [if_neg c29] at H
                      exact absurd H (by simp)
                  · rw [if_neg c28] at H
                    exact absurd H (by simp)
                · rw [if_neg c27] at H
                  exact absurd H (by simp)
              · rw [if_neg c26] at H
                have c26b0 : decide (x36_2 < (t136.length : Int)) = false := decide_eq_false c26
                clear c26
                obtain rfl := Option.some.inj H
                go_wp2
                repeat (go_quiet (fail); try go_wp2)
                go_ret
                exact ⟨by first | rfl | (simp [errW_none, errW_some] <;> rfl) | (simp [*, errW_none, errW_some] <;> rfl), bq_⟩
  · replace c3 := Bool.eq_false_iff.mpr c3
    subst c3
    have H1 : (some false) = some r := by rw [if_neg (show ¬ (false = true) by decide)] at H; exact H
    clear H
    have H := H1
    clear H1
    obtain rfl := Option.some.inj H
    go_enter Try.func48, Try.ntmps48
    go_wp2_with (first | ((with_reducible refine gate_dst (N := 1) rfl ?_); (try (refine gate_guard (by rfl) ?_; dsimp only)); refine boxq_ (N := 1) (cs := #[.int .i64 a0_0, .slice A0_1 l0_1.length c0_1, .int .i64 a0_2]) (t := 30) ?_; intro gb130 hg w43 hbox hb; have n0_ := Aside0.mk (below_step (bq_) hb); have n1_ := Aside0.mk (hbox); have n2_ := Aside0.mk ((by rw [hg]; exact (below_size (bq_)) : w.heap.size ≤ gb130)); have n3_ := Aside0.mk ((by rw [hg]; exact (below_size (bq_)) : w.heap.size ≤ gb130)); clear HB; have HB := n0_; have BK130 := n1_; have GW130 := n2_; have GE130 := n3_; clear n0_ n1_ n2_ n3_; clear hb hbox hg; have hcz44_0 := cq_ BK130.out 0 (.int .i64 a0_0); have hcz44_1 := cq_ BK130.out 1 (.slice A0_1 l0_1.length c0_1); have hcz44_2 := cq_ BK130.out 2 (.int .i64 a0_2); have hfz44_0 := blk_frozen BK130.out 0; have hfz44_1 := blk_frozen BK130.out 1; have hfz44_2 := blk_frozen BK130.out 2) | (go_at_call 60; (with_reducible refine (spec_l7Table.calls k a0_0 _ _ l0_1 a0_2 t131 false _ ?side1 ?side2 A2.out).mono ?_); (case side1 => repeat (first | exact (Kd.C_below HR0_1.out HB.out) | (with_reducible refine Kd.C_alloc ?_ _) | (with_reducible refine Kd.C_drewN ?_ _) | (with_reducible refine Kd.C_drew ?_))); (case side2 => exact HC0_1.out); rintro e w45 ⟨v132, rfl, ho0, hb⟩; have n0_ := Aside0.mk (Kd.R_lower ho0 (below_size (bq_))); have n1_ := Aside0.mk (blk_below (bk_ BK130.out) hb); have n2_ := Aside0.mk (below_step (bq_) hb); clear BK130; clear HB; have HO133 := n0_; have BK130 := n1_; have HB := n2_; clear n0_ n1_ n2_; (try clear hb); (try clear hb2); (try clear hk); (try clear hi); (try clear ho0)))
    repeat (go_quiet (first | ((with_reducible refine gate_dst (N := 1) rfl ?_); (try (refine gate_guard (by rfl) ?_; dsimp only)); refine boxq_ (N := 1) (cs := #[.int .i64 a0_0, .slice A0_1 l0_1.length c0_1, .int .i64 a0_2]) (t := 30) ?_; intro gb130 hg w43 hbox hb; have n0_ := Aside0.mk (below_step (bq_) hb); have n1_ := Aside0.mk (hbox); have n2_ := Aside0.mk ((by rw [hg]; exact (below_size (bq_)) : w.heap.size ≤ gb130)); have n3_ := Aside0.mk ((by rw [hg]; exact (below_size (bq_)) : w.heap.size ≤ gb130)); clear HB; have HB := n0_; have BK130 := n1_; have GW130 := n2_; have GE130 := n3_; clear n0_ n1_ n2_ n3_; clear hb hbox hg; have hcz44_0 := cq_ BK130.out 0 (.int .i64 a0_0); have hcz44_1 := cq_ BK130.out 1 (.slice A0_1 l0_1.length c0_1); have hcz44_2 := cq_ BK130.out 2 (.int .i64 a0_2); have hfz44_0 := blk_frozen BK130.out 0; have hfz44_1 := blk_frozen BK130.out 1; have hfz44_2 := blk_frozen BK130.out 2) | (go_at_call 60; (with_reducible refine (spec_l7Table.calls k a0_0 _ _ l0_1 a0_2 t131 false _ ?side1 ?side2 A2.out).mono ?_); (case side1 => repeat (first | exact (Kd.C_below HR0_1.out HB.out) | (with_reducible refine Kd.C_alloc ?_ _) | (with_reducible refine Kd.C_drewN ?_ _) | (with_reducible refine Kd.C_drew ?_))); (case side2 => exact HC0_1.out); rintro e w45 ⟨v132, rfl, ho0, hb⟩; have n0_ := Aside0.mk (Kd.R_lower ho0 (below_size (bq_))); have n1_ := Aside0.mk (blk_below (bk_ BK130.out) hb); have n2_ := Aside0.mk (below_step (bq_) hb); clear BK130; clear HB; have HO133 := n0_; have BK130 := n1_; have HB := n2_; clear n0_ n1_ n2_; (try clear hb); (try clear hb2); (try clear hk); (try clear hi); (try clear ho0))); try go_wp2_with (first | ((with_reducible refine gate_dst (N := 1) rfl ?_); (try (refine gate_guard (by rfl) ?_; dsimp only)); refine boxq_ (N := 1) (cs := #[.int .i64 a0_0, .slice A0_1 l0_1.length c0_1, .int .i64 a0_2]) (t := 30) ?_; intro gb130 hg w43 hbox hb; have n0_ := Aside0.mk (below_step (bq_) hb); have n1_ := Aside0.mk (hbox); have n2_ := Aside0.mk ((by rw [hg]; exact (below_size (bq_)) : w.heap.size ≤ gb130)); have n3_ := Aside0.mk ((by rw [hg]; exact (below_size (bq_)) : w.heap.size ≤ gb130)); clear HB; have HB := n0_; have BK130 := n1_; have GW130 := n2_; have GE130 := n3_; clear n0_ n1_ n2_ n3_; clear hb hbox hg; have hcz44_0 := cq_ BK130.out 0 (.int .i64 a0_0); have hcz44_1 := cq_ BK130.out 1 (.slice A0_1 l0_1.length c0_1); have hcz44_2 := cq_ BK130.out 2 (.int .i64 a0_2); have hfz44_0 := blk_frozen BK130.out 0; have hfz44_1 := blk_frozen BK130.out 1; have hfz44_2 := blk_frozen BK130.out 2) | (go_at_call 60; (with_reducible refine (spec_l7Table.calls k a0_0 _ _ l0_1 a0_2 t131 false _ ?side1 ?side2 A2.out).mono ?_); (case side1 => repeat (first | exact (Kd.C_below HR0_1.out HB.out) | (with_reducible refine Kd.C_alloc ?_ _) | (with_reducible refine Kd.C_drewN ?_ _) | (with_reducible refine Kd.C_drew ?_))); (case side2 => exact HC0_1.out); rintro e w45 ⟨v132, rfl, ho0, hb⟩; have n0_ := Aside0.mk (Kd.R_lower ho0 (below_size (bq_))); have n1_ := Aside0.mk (blk_below (bk_ BK130.out) hb); have n2_ := Aside0.mk (below_step (bq_) hb); clear BK130; clear HB; have HO133 := n0_; have BK130 := n1_; have HB := n2_; clear n0_ n1_ n2_; (try clear hb); (try clear hb2); (try clear hk); (try clear hi); (try clear ho0))))
    go_ret
    exact ⟨by first | rfl | (simp [errW_none, errW_some] <;> rfl) | (simp [*, errW_none, errW_some] <;> rfl), bq_⟩
def spec_TableOf.f (k : Nat) (a0_0 : Int) (l0_1 : List (S75)) (a0_2 : Int) : Option (List Bool × Bool) := (spec_GoodDiagram.f k a0_0 l0_1 a0_2).bind fun t145 => (if t145 = true then ((spec_l7Table.f k a0_0 l0_1 a0_2).bind fun bt146 => (some (bt146.1, bt146.2))) else (some (([] : List Bool), false)))
set_option maxHeartbeats 8000000 in
set_option maxRecDepth 100000 in
theorem spec_TableOf.calls (k : Nat) (a0_0 : Int) (A0_1 : Option Addr) (c0_1 : Nat) (l0_1 : List (S75)) (a0_2 : Int) (r1 : List Bool) (r2 : Bool) (w : World) (hr0_1 : Kd.C k75 w A0_1 l0_1.length l0_1) (hc0_1 : l0_1.length ≤ c0_1) (h : spec_TableOf.f k a0_0 l0_1 a0_2 = some (r1, r2)) :
    Calls Try.prog 21 #[.agg #[.int .i64 a0_0, .slice A0_1 l0_1.length c0_1, .int .i64 a0_2]] w fun e w' => ∃ v0_ : Value, e = .returned (.tuple #[v0_, .bool r2]) ∧ Kd.R Kd.bool 4 w' w.heap.size (fun _ => True) v0_ r1 ∧ Below w.heap.size w w' := by
  have hu30 := Try.underlying30
  have HR0_1 := Aside0.mk hr0_1
  have HC0_1 := Aside0.mk hc0_1
  clear hr0_1 hc0_1
  have HB := Aside0.mk (Below.refl w.heap.size w)
  have H : ((spec_GoodDiagram.f k a0_0 l0_1 a0_2).bind fun t145 => (if t145 = true then ((spec_l7Table.f k a0_0 l0_1 a0_2).bind fun bt146 => (some (bt146.1, bt146.2))) else (some (([] : List Bool), false)))) = some (r1, r2) := h
  clear h
  replace H := Option.bind_eq_some_iff.mp H
  obtain ⟨t145, A20, H⟩ := H
  replace H : (if t145 = true then ((spec_l7Table.f k a0_0 l0_1 a0_2).bind fun bt146 => (some (bt146.1, bt146.2))) else (some (([] : List Bool), false))) = some (r1, r2) := H
  have A2 := Aside0.mk A20
  clear A20
  by_cases c3 : t145 = true
  · subst c3
    have H1 : ((spec_l7Table.f k a0_0 l0_1 a0_2).bind fun bt146 => (some (bt146.1, bt146.2))) = some (r1, r2) := by rw [if_pos rfl] at H; exact H
    clear H
    have H := H1
    clear H1
    replace H := Option.bind_eq_some_iff.mp H
    obtain ⟨⟨t146, t149⟩, A40, H⟩ := H
    replace H : (some (t146, t149)) = some (r1, r2) := H
    have A4 := Aside0.mk A40
    clear A40
    simp only [Option.some.injEq, Prod.mk.injEq] at H
    obtain ⟨rfl, rfl⟩ := H
    go_enter Try.func21, Try.ntmps21
    go_wp2_with (first | ((with_reducible refine gate_dst (N := 1) rfl ?_); refine boxq_ (N := 1) (cs := #[.int .i64 a0_0, .slice A0_1 l0_1.length c0_1, .int .i64 a0_2]) (t := 30) ?_; intro gb144 hg w5 hbox hb; have n0_ := Aside0.mk (below_step (bq_) hb); have n1_ := Aside0.mk (hbox); have n2_ := Aside0.mk ((by rw [hg]; exact (below_size (bq_)) : w.heap.size ≤ gb144)); have n3_ := Aside0.mk ((by rw [hg]; exact (below_size (bq_)) : w.heap.size ≤ gb144)); clear HB; have HB := n0_; have BK144 := n1_; have GW144 := n2_; have GE144 := n3_; clear n0_ n1_ n2_ n3_; clear hb hbox hg; have hcz6_0 := cq_ BK144.out 0 (.int .i64 a0_0); have hcz6_1 := cq_ BK144.out 1 (.slice A0_1 l0_1.length c0_1); have hcz6_2 := cq_ BK144.out 2 (.int .i64 a0_2); have hfz6_0 := blk_frozen BK144.out 0; have hfz6_1 := blk_frozen BK144.out 1; have hfz6_2 := blk_frozen BK144.out 2) | ((with_reducible refine gate_callee (f := 48) rfl ?_); refine goesL_ (some 5) rfl rfl Try.func48 (by kernel_rfl) rfl #[.agg #[.int .i64 a0_0, .slice A0_1 l0_1.length c0_1, .int .i64 a0_2]] rfl (by (try simp only [List.map_toArray, List.map_cons, List.map_nil]); first | done | rfl | (simp only [List.length_drop, List.length_take]; rfl)) ?_; (with_reducible refine (spec_GoodDiagram.calls k a0_0 _ _ l0_1 a0_2 true _ ?side1 ?side2 A2.out).mono ?_); (case side1 => repeat (first | exact (Kd.C_below HR0_1.out HB.out) | (with_reducible refine Kd.C_alloc ?_ _) | (with_reducible refine Kd.C_drewN ?_ _) | (with_reducible refine Kd.C_drew ?_))); (case side2 => exact HC0_1.out); rintro e w7 ⟨rfl, hb⟩; refine ⟨_, rfl, ?_⟩; have n0_ := Aside0.mk (blk_below (bk_ BK144.out) hb); have n1_ := Aside0.mk (below_step (bq_) hb); clear BK144; clear HB; have BK144 := n0_; have HB := n1_; clear n0_ n1_; (try clear hb); (try clear hb2); (try clear hk); (try clear hi); have hcz8_0 := cq_ BK144.out 0 (.int .i64 a0_0); have hcz8_1 := cq_ BK144.out 1 (.slice A0_1 l0_1.length c0_1); have hcz8_2 := cq_ BK144.out 2 (.int .i64 a0_2); have hfz8_0 := blk_frozen BK144.out 0; have hfz8_1 := blk_frozen BK144.out 1; have hfz8_2 := blk_frozen BK144.out 2) | ((with_reducible refine gate_callee (f := 60) rfl ?_); refine goesL_ (some 8) rfl rfl Try.func60 (by kernel_rfl) rfl #[.agg #[.int .i64 a0_0, .slice A0_1 l0_1.length c0_1, .int .i64 a0_2]] rfl (by (try simp only [List.map_toArray, List.map_cons, List.map_nil]); first | done | rfl | (simp only [List.length_drop, List.length_take]; rfl)) ?_; (with_reducible refine (spec_l7Table.calls k a0_0 _ _ l0_1 a0_2 t146 t149 _ ?side1 ?side2 A4.out).mono ?_); (case side1 => repeat (first | exact (Kd.C_below HR0_1.out HB.out) | (with_reducible refine Kd.C_alloc ?_ _) | (with_reducible refine Kd.C_drewN ?_ _) | (with_reducible refine Kd.C_drew ?_))); (case side2 => exact HC0_1.out); rintro e w9 ⟨v147, rfl, ho0, hb⟩; refine ⟨_, rfl, ?_⟩; have n0_ := Aside0.mk (Kd.R_lower ho0 (below_size (bq_))); have n1_ := Aside0.mk (blk_below (bk_ BK144.out) hb); have n2_ := Aside0.mk (below_step (bq_) hb); clear BK144; clear HB; have HO148 := n0_; have BK144 := n1_; have HB := n2_; clear n0_ n1_ n2_; (try clear hb); (try clear hb2); (try clear hk); (try clear hi); (try clear ho0)))
    go_ret2
    exact ⟨_, by first | rfl | (simp [errW_none, errW_some] <;> rfl) | (simp [*, errW_none, errW_some] <;> rfl), rq_ HO148.out, bq_⟩
  · replace c3 := Bool.eq_false_iff.mpr c3
    subst c3
    have H1 : (some (([] : List Bool), false)) = some (r1, r2) := by rw [if_neg (show ¬ (false = true) by decide)] at H; exact H
    clear H
    have H := H1
    clear H1
    simp only [Option.some.injEq, Prod.mk.injEq] at H
    obtain ⟨rfl, rfl⟩ := H
    go_enter Try.func21, Try.ntmps21
    go_wp2_with (first | ((with_reducible refine gate_dst (N := 1) rfl ?_); refine boxq_ (N := 1) (cs := #[.int .i64 a0_0, .slice A0_1 l0_1.length c0_1, .int .i64 a0_2]) (t := 30) ?_; intro gb144 hg w10 hbox hb; have n0_ := Aside0.mk (below_step (bq_) hb); have n1_ := Aside0.mk (hbox); have n2_ := Aside0.mk ((by rw [hg]; exact (below_size (bq_)) : w.heap.size ≤ gb144)); have n3_ := Aside0.mk ((by rw [hg]; exact (below_size (bq_)) : w.heap.size ≤ gb144)); clear HB; have HB := n0_; have BK144 := n1_; have GW144 := n2_; have GE144 := n3_; clear n0_ n1_ n2_ n3_; clear hb hbox hg; have hcz11_0 := cq_ BK144.out 0 (.int .i64 a0_0); have hcz11_1 := cq_ BK144.out 1 (.slice A0_1 l0_1.length c0_1); have hcz11_2 := cq_ BK144.out 2 (.int .i64 a0_2); have hfz11_0 := blk_frozen BK144.out 0; have hfz11_1 := blk_frozen BK144.out 1; have hfz11_2 := blk_frozen BK144.out 2) | ((with_reducible refine gate_callee (f := 48) rfl ?_); refine goesL_ (some 5) rfl rfl Try.func48 (by kernel_rfl) rfl #[.agg #[.int .i64 a0_0, .slice A0_1 l0_1.length c0_1, .int .i64 a0_2]] rfl (by (try simp only [List.map_toArray, List.map_cons, List.map_nil]); first | done | rfl | (simp only [List.length_drop, List.length_take]; rfl)) ?_; (with_reducible refine (spec_GoodDiagram.calls k a0_0 _ _ l0_1 a0_2 false _ ?side1 ?side2 A2.out).mono ?_); (case side1 => repeat (first | exact (Kd.C_below HR0_1.out HB.out) | (with_reducible refine Kd.C_alloc ?_ _) | (with_reducible refine Kd.C_drewN ?_ _) | (with_reducible refine Kd.C_drew ?_))); (case side2 => exact HC0_1.out); rintro e w12 ⟨rfl, hb⟩; refine ⟨_, rfl, ?_⟩; have n0_ := Aside0.mk (blk_below (bk_ BK144.out) hb); have n1_ := Aside0.mk (below_step (bq_) hb); clear BK144; clear HB; have BK144 := n0_; have HB := n1_; clear n0_ n1_; (try clear hb); (try clear hb2); (try clear hk); (try clear hi)))
    go_ret2
    exact ⟨_, by first | rfl | (simp [errW_none, errW_some] <;> rfl) | (simp [*, errW_none, errW_some] <;> rfl), by first | exact Kd.R_nil _ _ _ _ _ | exact Kd.N_nil _ _ _ _ _ | exact Kd.V_nil _ _ _ _ _ | exact Kd.Q_nil _ _ _ _ _ | exact Kd.S_nil _ _ _ _ _, bq_⟩
def spec_OnesOf.l0 : Nat → Bool → Int → List Bool → Int → Int → Option (Int × Bool)
  | 0, _, _, _, _, _ => none
  | k + 1, x5, x6, x14, x15, x16 => if x16 < x15 then (if 0 ≤ x16 then (if x16 < (x14.length : Int) then (if rdOf false x14 x16 = true then (spec_OnesOf.l0 k x5 (wrap64 (x6 + 1)) x14 x15 (wrap64 (x16 + 1))) else (spec_OnesOf.l0 k x5 x6 x14 x15 (wrap64 (x16 + 1)))) else (none)) else (none)) else (some (x6, x5))
def spec_OnesOf.f (k : Nat) (a0_0 : Int) (l0_1 : List (S75)) (a0_2 : Int) : Option (Int × Bool) := (spec_TableOf.f k a0_0 l0_1 a0_2).bind fun bt151 => (spec_OnesOf.l0 k bt151.2 0 bt151.1 (bt151.1.length : Int) 0)
set_option maxHeartbeats 8000000 in
set_option maxRecDepth 100000 in
theorem spec_OnesOf.calls (k : Nat) (a0_0 : Int) (A0_1 : Option Addr) (c0_1 : Nat) (l0_1 : List (S75)) (a0_2 : Int) (r1 : Int) (r2 : Bool) (w : World) (hr0_1 : Kd.C k75 w A0_1 l0_1.length l0_1) (hc0_1 : l0_1.length ≤ c0_1) (h : spec_OnesOf.f k a0_0 l0_1 a0_2 = some (r1, r2)) :
    Calls Try.prog 13 #[.agg #[.int .i64 a0_0, .slice A0_1 l0_1.length c0_1, .int .i64 a0_2]] w fun e w' => e = .returned (.tuple #[.int .i64 r1, .bool r2]) ∧ Below w.heap.size w w' := by
  have hu30 := Try.underlying30
  have HR0_1 := Aside0.mk hr0_1
  have HC0_1 := Aside0.mk hc0_1
  clear hr0_1 hc0_1
  have HB := Aside0.mk (Below.refl w.heap.size w)
  have H : ((spec_TableOf.f k a0_0 l0_1 a0_2).bind fun bt151 => (spec_OnesOf.l0 k bt151.2 0 bt151.1 (bt151.1.length : Int) 0)) = some (r1, r2) := h
  clear h
  replace H := Option.bind_eq_some_iff.mp H
  obtain ⟨⟨t151, t154⟩, A20, H⟩ := H
  replace H : (spec_OnesOf.l0 k t154 0 t151 (t151.length : Int) 0) = some (r1, r2) := H
  have A2 := Aside0.mk A20
  clear A20
  have H' := Aside0.mk H
  clear H
  go_enter Try.func13, Try.ntmps13
  go_wp2_with (first | ((with_reducible refine gate_dst (N := 1) rfl ?_); refine boxq_ (N := 1) (cs := #[.int .i64 a0_0, .slice A0_1 l0_1.length c0_1, .int .i64 a0_2]) (t := 30) ?_; intro gb150 hg w3 hbox hb; have n0_ := Aside0.mk (below_step (bq_) hb); have n1_ := Aside0.mk (hbox); have n2_ := Aside0.mk ((by rw [hg]; exact (below_size (bq_)) : w.heap.size ≤ gb150)); have n3_ := Aside0.mk ((by rw [hg]; exact (below_size (bq_)) : w.heap.size ≤ gb150)); clear HB; have HB := n0_; have BK150 := n1_; have GW150 := n2_; have GE150 := n3_; clear n0_ n1_ n2_ n3_; clear hb hbox hg; have hcz4_0 := cq_ BK150.out 0 (.int .i64 a0_0); have hcz4_1 := cq_ BK150.out 1 (.slice A0_1 l0_1.length c0_1); have hcz4_2 := cq_ BK150.out 2 (.int .i64 a0_2); have hfz4_0 := blk_frozen BK150.out 0; have hfz4_1 := blk_frozen BK150.out 1; have hfz4_2 := blk_frozen BK150.out 2) | ((with_reducible refine gate_callee (f := 21) rfl ?_); refine goesL_ (some 11) rfl rfl Try.func21 (by kernel_rfl) rfl #[.agg #[.int .i64 a0_0, .slice A0_1 l0_1.length c0_1, .int .i64 a0_2]] rfl (by (try simp only [List.map_toArray, List.map_cons, List.map_nil]); first | done | rfl | (simp only [List.length_drop, List.length_take]; rfl)) ?_; (with_reducible refine (spec_TableOf.calls k a0_0 _ _ l0_1 a0_2 t151 t154 _ ?side1 ?side2 A2.out).mono ?_); (case side1 => repeat (first | exact (Kd.C_below HR0_1.out HB.out) | (with_reducible refine Kd.C_alloc ?_ _) | (with_reducible refine Kd.C_drewN ?_ _) | (with_reducible refine Kd.C_drew ?_))); (case side2 => exact HC0_1.out); rintro e w5 ⟨v152, rfl, ho0, hb⟩; refine ⟨_, rfl, ?_⟩; have n0_ := Aside0.mk (Kd.R_lower ho0 (below_size (bq_))); have n1_ := Aside0.mk (blk_below (bk_ BK150.out) hb); have n2_ := Aside0.mk (below_step (bq_) hb); clear BK150; clear HB; have HO153 := n0_; have BK150 := n1_; have HB := n2_; clear n0_ n1_ n2_; (try clear hb); (try clear hb2); (try clear hk); (try clear hi); (try clear ho0); obtain ⟨Ao6, co6, eo6⟩ := Kd.R_slice HO153.out; subst eo6))
  go_loopg [6, 16] k (fun kq v6 v16 w' => ∃ (x6_1 : Int) (x16_1 : Int), v6 = .int .i64 x6_1 ∧ v16 = .int .i64 x16_1 ∧ Aside0 (spec_OnesOf.l0 kq t154 x6_1 t151 (t151.length : Int) x16_1 = some (r1, r2)) ∧ Aside0 (kq ≤ k) ∧ Aside0 (Kd.R Kd.bool 4 w' w.heap.size (fun _ => True) (.slice Ao6 t151.length co6) t151) ∧ Aside0 (w'.heap[gb150]? = some (.cells #[.int .i64 a0_0, (.slice A0_1 l0_1.length c0_1), .int .i64 a0_2] 30 (0, 0))) ∧ Aside0 (Below w.heap.size w w'))
  case atStart => exact ⟨(0), (0), (by first | rfl | (simp; done) | (simp [*]; done)), (by first | rfl | (simp; done) | (simp [*]; done)), H', ⟨Nat.le_refl _⟩, ⟨rq_ HO153.out⟩, ⟨bk_ BK150.out⟩, ⟨bq_⟩⟩
  case round =>
    clear H'
    try clear c1
    try clear c2
    try clear p2
    try clear hcz4_0
    try clear hcz4_1
    try clear hcz4_2
    try clear hfz4_0
    try clear hfz4_1
    try clear hfz4_2
    obtain ⟨x6_1, x16_1, rfl, rfl, HA, HK1, HO_14, BK150, HB⟩ := hrel
    cases gk with
    | zero => exact absurd HA.out (by simp [spec_OnesOf.l0])
    | succ k1 =>
      have H := HA.out
      clear HA
      simp only [spec_OnesOf.l0] at H
      by_cases c7 : x16_1 < (t151.length : Int)
      · rw [if_pos c7] at H
        have c7b0 : decide (x16_1 < (t151.length : Int)) = true := decide_eq_true c7
        clear c7
        by_cases c8 : 0 ≤ x16_1
        · rw [if_pos c8] at H
          have c8b0 : decide (0 ≤ x16_1) = true := decide_eq_true c8
          clear c8
          by_cases c9 : x16_1 < (t151.length : Int)
          · rw [if_pos c9] at H
            have c9b0 : decide (x16_1 < (t151.length : Int)) = true := decide_eq_true c9
            clear c9
            obtain ⟨bq10, hbq10⟩ : ∃ b_ : Bool, b_ = (rdOf false t151 x16_1) := ⟨_, rfl⟩
            replace H : (if bq10 = true then (spec_OnesOf.l0 k1 t154 (wrap64 (x6_1 + 1)) t151 (t151.length : Int) (wrap64 (x16_1 + 1))) else (spec_OnesOf.l0 k1 t154 x6_1 t151 (t151.length : Int) (wrap64 (x16_1 + 1)))) = some (r1, r2) := by rw [← hbq10] at H; exact H
            have Nbq10 := Aside0.mk hbq10
            clear hbq10
            by_cases c11 : bq10 = true
            · subst c11
              have H1 : (spec_OnesOf.l0 k1 t154 (wrap64 (x6_1 + 1)) t151 (t151.length : Int) (wrap64 (x16_1 + 1))) = some (r1, r2) := by rw [if_pos rfl] at H; exact H
              clear H
              have H := H1
              clear H1
              have H' := Aside0.mk H
              clear H
              have p155 : 0 ≤ (x16_1 : Int) := of_decide_eq_true (by first | (with_reducible assumption) | assumption)
              have q155 : x16_1 < (t151.length : Int) := of_decide_eq_true (by first | (with_reducible assumption) | assumption)
              obtain ⟨ad155, e155, hx155_0⟩ := Kd.at_bool (Kd.R_reads' HO_14.out).2.2 x16_1 p155 q155
              (try rw [← Nbq10.out] at hx155_0)
              cases e155
              replace p155 := eq_true p155
              replace q155 := eq_true q155
              go_wp2
              go_roundg k1
              case measure => have := HK1.out; omega
              case rel => exact ⟨(wrap64 (x6_1 + 1)), (wrap64 (x16_1 + 1)), (by first | rfl | (simp; done) | (simp [*]; done)), (by first | rfl | (simp; done) | (simp [*]; done)), H', ⟨by have := HK1.out; omega⟩, ⟨rq_ HO_14.out⟩, ⟨bk_ BK150.out⟩, ⟨bq_⟩⟩
            · replace c11 := Bool.eq_false_iff.mpr c11
              subst c11
              have H1 : (spec_OnesOf.l0 k1 t154 x6_1 t151 (t151.length : Int) (wrap64 (x16_1 + 1))) = some (r1, r2) := by rw [if_neg (show ¬ (false = true) by decide)] at H; exact H
              clear H
              have H := H1
              clear H1
              have H' := Aside0.mk H
              clear H
              have p155 : 0 ≤ (x16_1 : Int) := of_decide_eq_true (by first | (with_reducible assumption) | assumption)
              have q155 : x16_1 < (t151.length : Int) := of_decide_eq_true (by first | (with_reducible assumption) | assumption)
              obtain ⟨ad155, e155, hx155_0⟩ := Kd.at_bool (Kd.R_reads' HO_14.out).2.2 x16_1 p155 q155
              (try rw [← Nbq10.out] at hx155_0)
              cases e155
              replace p155 := eq_true p155
              replace q155 := eq_true q155
              go_wp2
              go_roundg k1
              case measure => have := HK1.out; omega
              case rel => exact ⟨(x6_1), (wrap64 (x16_1 + 1)), (by first | rfl | (simp; done) | (simp [*]; done)), (by first | rfl | (simp; done) | (simp [*]; done)), H', ⟨by have := HK1.out; omega⟩, ⟨rq_ HO_14.out⟩, ⟨bk_ BK150.out⟩, ⟨bq_⟩⟩
          · rw [if_neg c9] at H
            exact absurd H (by simp)
        · rw [if_neg c8] at H
          exact absurd H (by simp)
      · rw [if_neg c7] at H
        have c7b0 : decide (x16_1 < (t151.length : Int)) = false := decide_eq_false c7
        clear c7
        simp only [Option.some.injEq, Prod.mk.injEq] at H
        obtain ⟨rfl, rfl⟩ := H
        go_wp2
        go_ret2
        exact ⟨by first | rfl | (simp [errW_none, errW_some] <;> rfl) | (simp [*, errW_none, errW_some] <;> rfl), bq_⟩
def impl_Diagram_value.l0 : Nat → Int → Int → Int → List (S75) → Int → Option (Bool)
  | 0, _, _, _, _, _ => none
  | k + 1, x1, x5, x157000, x157001, x157002 => if x5 > 1 then (if 0 ≤ (wrap64 (x5 - 2)) then (if (wrap64 (x5 - 2)) < (x157001.length : Int) then (if 0 ≤ (wrap64 (((rd_T75 x157001 (wrap64 (x5 - 2))).f0) - 1)) then (if (Go.bits .and .i64 (shr .i64 x1 (wrap64 (((rd_T75 x157001 (wrap64 (x5 - 2))).f0) - 1))) 1) = 1 then (impl_Diagram_value.l0 k x1 ((rd_T75 x157001 (wrap64 (x5 - 2))).f2) x157000 x157001 x157002) else (impl_Diagram_value.l0 k x1 ((rd_T75 x157001 (wrap64 (x5 - 2))).f1) x157000 x157001 x157002)) else (none)) else (none)) else (none)) else (some (x5 == 1))
def impl_Diagram_value.f (k : Nat) (a0_0 : Int) (l0_1 : List (S75)) (a0_2 : Int) (a1 : Int) : Option (Bool) := impl_Diagram_value.l0 k a1 a0_2 a0_0 l0_1 a0_2
set_option maxHeartbeats 8000000 in
set_option maxRecDepth 100000 in
theorem impl_Diagram_value.calls (k : Nat) (a0_0 : Int) (A0_1 : Option Addr) (c0_1 : Nat) (l0_1 : List (S75)) (a0_2 : Int) (a1 : Int) (r : Bool) (w : World) (hr0_1 : Kd.C k75 w A0_1 l0_1.length l0_1) (hc0_1 : l0_1.length ≤ c0_1) (h : impl_Diagram_value.f k a0_0 l0_1 a0_2 a1 = some r) :
    Calls Try.prog 59 #[.agg #[.int .i64 a0_0, .slice A0_1 l0_1.length c0_1, .int .i64 a0_2], .int .i64 a1] w fun e w' => e = .returned (.bool r) ∧ Below w.heap.size w w' := by
  have hu30 := Try.underlying30
  have hu75 := Try.underlying75
  have HR0_1 := Aside0.mk hr0_1
  have HC0_1 := Aside0.mk hc0_1
  clear hr0_1 hc0_1
  have HB := Aside0.mk (Below.refl w.heap.size w)
  have H : (impl_Diagram_value.l0 k a1 a0_2 a0_0 l0_1 a0_2) = some r := h
  clear h
  have H' := Aside0.mk H
  clear H
  go_enter Try.func59, Try.ntmps59
  go_wp2_with (first | ((with_reducible refine gate_dst (N := 2) rfl ?_); refine boxq_ (N := 2) (cs := #[.int .i64 a0_0, .slice A0_1 l0_1.length c0_1, .int .i64 a0_2]) (t := 30) ?_; intro gb156 hg w3 hbox hb; have n0_ := Aside0.mk (below_step (bq_) hb); have n1_ := Aside0.mk (hbox); have n2_ := Aside0.mk ((by rw [hg]; exact (below_size (bq_)) : w.heap.size ≤ gb156)); have n3_ := Aside0.mk ((by rw [hg]; exact (below_size (bq_)) : w.heap.size ≤ gb156)); clear HB; have HB := n0_; have BK156 := n1_; have GW156 := n2_; have GE156 := n3_; clear n0_ n1_ n2_ n3_; clear hb hbox hg; have hcz4_0 := cq_ BK156.out 0 (.int .i64 a0_0); have hcz4_1 := cq_ BK156.out 1 (.slice A0_1 l0_1.length c0_1); have hcz4_2 := cq_ BK156.out 2 (.int .i64 a0_2); have hfz4_0 := blk_frozen BK156.out 0; have hfz4_1 := blk_frozen BK156.out 1; have hfz4_2 := blk_frozen BK156.out 2))
  go_loopg [5] k (fun kq v5 w' => ∃ (x5_1 : Int), v5 = .int .i64 x5_1 ∧ Aside0 (impl_Diagram_value.l0 kq a1 x5_1 a0_0 l0_1 a0_2 = some r) ∧ Aside0 (kq ≤ k) ∧ Aside0 (w'.heap[gb156]? = some (.cells #[.int .i64 a0_0, (.slice A0_1 l0_1.length c0_1), .int .i64 a0_2] 30 (0, 0))) ∧ Aside0 (Below w.heap.size w w'))
  case atStart => exact ⟨(a0_2), (by first | rfl | (simp; done) | (simp [*]; done)), H', ⟨Nat.le_refl _⟩, ⟨bk_ BK156.out⟩, ⟨bq_⟩⟩
  case round =>
    clear H'
    try clear p2
    try clear hcz4_0
    try clear hcz4_1
    try clear hcz4_2
    try clear hfz4_0
    try clear hfz4_1
    try clear hfz4_2
    obtain ⟨x5_1, rfl, HA, HK1, BK156, HB⟩ := hrel
    cases gk with
    | zero => exact absurd HA.out (by simp [impl_Diagram_value.l0])
    | succ k1 =>
      have H := HA.out
      clear HA
      simp only [impl_Diagram_value.l0] at H
      by_cases c5 : x5_1 > 1
      · rw [if_pos c5] at H
        have c5b0 : decide (1 < x5_1) = true := decide_eq_true c5
        clear c5
        obtain ⟨ji6, hji6⟩ : ∃ j_ : Int, (wrap64 (x5_1 - 2)) = j_ := ⟨_, rfl⟩
        replace H : (if 0 ≤ (ji6) then (if (ji6) < (l0_1.length : Int) then (if 0 ≤ (wrap64 (((rd_T75 l0_1 (ji6)).f0) - 1)) then (if (Go.bits .and .i64 (shr .i64 a1 (wrap64 (((rd_T75 l0_1 (ji6)).f0) - 1))) 1) = 1 then (impl_Diagram_value.l0 k1 a1 ((rd_T75 l0_1 (ji6)).f2) a0_0 l0_1 a0_2) else (impl_Diagram_value.l0 k1 a1 ((rd_T75 l0_1 (ji6)).f1) a0_0 l0_1 a0_2)) else (none)) else (none)) else (none)) = some r := by first | (rw [hji6] at H; exact H) | (simp only [hji6] at H ⊢; exact H)
        have hji6w : (IntKind.i64.wrap (x5_1 - 2)) = ji6 := (i64_w _).trans hji6
        by_cases c7 : 0 ≤ (ji6)
        · rw [if_pos c7] at H
          have c7b0 : decide (0 ≤ (ji6)) = true := decide_eq_true c7
          clear c7
          by_cases c8 : (ji6) < (l0_1.length : Int)
          · rw [if_pos c8] at H
            have c8b0 : decide ((ji6) < (l0_1.length : Int)) = true := decide_eq_true c8
            clear c8
            obtain ⟨ji9, hji9⟩ : ∃ j_ : Int, (wrap64 (((rd_T75 l0_1 (ji6)).f0) - 1)) = j_ := ⟨_, rfl⟩
            replace H : (if 0 ≤ (ji9) then (if (Go.bits .and .i64 (shr .i64 a1 (ji9)) 1) = 1 then (impl_Diagram_value.l0 k1 a1 ((rd_T75 l0_1 (ji6)).f2) a0_0 l0_1 a0_2) else (impl_Diagram_value.l0 k1 a1 ((rd_T75 l0_1 (ji6)).f1) a0_0 l0_1 a0_2)) else (none)) = some r := by first | (rw [hji9] at H; exact H) | (simp only [hji9] at H ⊢; exact H)
            have hji9w : (IntKind.i64.wrap (((rd_T75 l0_1 (ji6)).f0) - 1)) = ji9 := (i64_w _).trans hji9
            by_cases c10 : 0 ≤ (ji9)
            · rw [if_pos c10] at H
              have c10b0 := eq_true c10
              have c10b1 : decide (0 ≤ (ji9)) = true := decide_eq_true c10
              clear c10
              obtain ⟨ji11, hji11⟩ : ∃ j_ : Int, (shr .i64 a1 (ji9)) = j_ := ⟨_, rfl⟩
              replace H : (if (Go.bits .and .i64 (ji11) 1) = 1 then (impl_Diagram_value.l0 k1 a1 ((rd_T75 l0_1 (ji6)).f2) a0_0 l0_1 a0_2) else (impl_Diagram_value.l0 k1 a1 ((rd_T75 l0_1 (ji6)).f1) a0_0 l0_1 a0_2)) = some r := by first | (rw [hji11] at H; exact H) | (simp only [hji11] at H ⊢; exact H)
              have hji11_ : (a1 / 2 ^ min (ji9).toNat 64) = ji11 := hji11
              have hji11z : (ji9) ≤ 64 → (a1 / 2 ^ (ji9).toNat) = ji11 := shr_small hji11
              by_cases c12 : (Go.bits .and .i64 (ji11) 1) = 1
              · rw [if_pos c12] at H
                have c12b0 : ((Go.bits .and .i64 (ji11) 1) == 1) = true := beq_iff_eq.mpr c12
                have c12b1 : ((Go.bits .and .i64 (ji11) 1) != 1) = false := bne_eq_false_iff_eq.mpr c12
                clear c12
                have H' := Aside0.mk H
                clear H
                have hcz13_0 := cq_ BK156.out 0 (.int .i64 a0_0)
                have hcz13_1 := cq_ BK156.out 1 (.slice A0_1 l0_1.length c0_1)
                have hcz13_2 := cq_ BK156.out 2 (.int .i64 a0_2)
                have hfz13_0 := blk_frozen BK156.out 0
                have hfz13_1 := blk_frozen BK156.out 1
                have hfz13_2 := blk_frozen BK156.out 2
                have p157 : 0 ≤ ((ji6) : Int) := of_decide_eq_true (by first | (with_reducible assumption) | assumption)
                have q157 : (ji6) < (l0_1.length : Int) := of_decide_eq_true (by first | (with_reducible assumption) | assumption)
                obtain ⟨ad157, e157, hx157_0, hx157_1, hx157_2⟩ := at_T75 HR0_1.out (ji6) p157 q157
                cases e157
                replace hx157_0 := (HB.out.cell (World.block_lt_of_cell? w _ hx157_0)).trans hx157_0
                replace hx157_1 := (HB.out.cell (World.block_lt_of_cell? w _ hx157_1)).trans hx157_1
                replace hx157_2 := (HB.out.cell (World.block_lt_of_cell? w _ hx157_2)).trans hx157_2
                replace p157 := eq_true p157
                replace q157 := eq_true q157
                go_wp2_with (first | ((with_reducible refine gate_dst (N := 6) rfl ?_); refine boxq_ (N := 6) (cs := #[.int .i64 0, .int .i64 0, .int .i64 0]) (t := 75) ?_; intro gb158 hg w14 hbox hb; have n0_ := Aside0.mk (blk_below (bk_ BK156.out) hb); have n1_ := Aside0.mk (below_step (bq_) hb); have n2_ := Aside0.mk (hbox); have n3_ := Aside0.mk ((by rw [hg]; exact (below_size (bq_)) : w.heap.size ≤ gb158)); have n4_ := Aside0.mk ((by rw [hg]; exact (below_size (bq_)) : w.heap.size ≤ gb158)); have n5_ := Aside0.mk ((by rw [hg]; exact Nat.ne_of_lt (blk_lt (bk_ BK156.out)) : gb156 ≠ gb158)); have n6_ := Aside0.mk ((by rw [hg]; exact Nat.ne_of_gt (blk_lt (bk_ BK156.out)) : gb158 ≠ gb156)); clear BK156; clear HB; have BK156 := n0_; have HB := n1_; have BK158 := n2_; have GW158 := n3_; have GE158 := n4_; have NB156_158 := n5_; have NB158_156 := n6_; clear n0_ n1_ n2_ n3_ n4_ n5_ n6_; clear hb hbox hg; have hnb15 := NB158_156.out; have hnc15 := NB156_158.out; have hcz16_0 := cq_ BK158.out 0 (.int .i64 0); have hcz16_1 := cq_ BK158.out 1 (.int .i64 0); have hcz16_2 := cq_ BK158.out 2 (.int .i64 0); have hfz16_0 := blk_frozen BK158.out 0; have hfz16_1 := blk_frozen BK158.out 1; have hfz16_2 := blk_frozen BK158.out 2))
                go_roundg k1
                case measure => have := HK1.out; omega
                case rel => exact ⟨((rd_T75 l0_1 (ji6)).f2), (by first | rfl | (simp; done) | (simp only [← hji6] <;> (first | rfl | simp)) | (simp [*]; done)), H', ⟨by have := HK1.out; omega⟩, ⟨by (with_reducible repeat (first | refine blk_drewN ?_ _ | refine blk_drew ?_ | refine blk_alloc ?_ _)); refine blk_far ?_ NB156_158.out _; (with_reducible repeat (first | refine blk_drewN ?_ _ | refine blk_drew ?_ | refine blk_alloc ?_ _)); refine blk_far ?_ NB156_158.out _; (with_reducible repeat (first | refine blk_drewN ?_ _ | refine blk_drew ?_ | refine blk_alloc ?_ _)); refine blk_far ?_ NB156_158.out _; (with_reducible repeat (first | refine blk_drewN ?_ _ | refine blk_drew ?_ | refine blk_alloc ?_ _)); exact BK156.out⟩, ⟨bq_⟩⟩
              · rw [if_neg c12] at H
                have c12b0 : ((Go.bits .and .i64 (ji11) 1) == 1) = false := beq_eq_false_iff_ne.mpr c12
                have c12b1 : ((Go.bits .and .i64 (ji11) 1) != 1) = true := bne_iff_ne.mpr c12
                have H' := Aside0.mk H
                clear H
                have hcz17_0 := cq_ BK156.out 0 (.int .i64 a0_0)
                have hcz17_1 := cq_ BK156.out 1 (.slice A0_1 l0_1.length c0_1)
                have hcz17_2 := cq_ BK156.out 2 (.int .i64 a0_2)
                have hfz17_0 := blk_frozen BK156.out 0
                have hfz17_1 := blk_frozen BK156.out 1
                have hfz17_2 := blk_frozen BK156.out 2
                have p157 : 0 ≤ ((ji6) : Int) := of_decide_eq_true (by first | (with_reducible assumption) | assumption)
                have q157 : (ji6) < (l0_1.length : Int) := of_decide_eq_true (by first | (with_reducible assumption) | assumption)
                obtain ⟨ad157, e157, hx157_0, hx157_1, hx157_2⟩ := at_T75 HR0_1.out (ji6) p157 q157
                cases e157
                replace hx157_0 := (HB.out.cell (World.block_lt_of_cell? w _ hx157_0)).trans hx157_0
                replace hx157_1 := (HB.out.cell (World.block_lt_of_cell? w _ hx157_1)).trans hx157_1
                replace hx157_2 := (HB.out.cell (World.block_lt_of_cell? w _ hx157_2)).trans hx157_2
                replace p157 := eq_true p157
                replace q157 := eq_true q157
                go_wp2_with (first | ((with_reducible refine gate_dst (N := 6) rfl ?_); refine boxq_ (N := 6) (cs := #[.int .i64 0, .int .i64 0, .int .i64 0]) (t := 75) ?_; intro gb158 hg w18 hbox hb; have n0_ := Aside0.mk (blk_below (bk_ BK156.out) hb); have n1_ := Aside0.mk (below_step (bq_) hb); have n2_ := Aside0.mk (hbox); have n3_ := Aside0.mk ((by rw [hg]; exact (below_size (bq_)) : w.heap.size ≤ gb158)); have n4_ := Aside0.mk ((by rw [hg]; exact (below_size (bq_)) : w.heap.size ≤ gb158)); have n5_ := Aside0.mk ((by rw [hg]; exact Nat.ne_of_lt (blk_lt (bk_ BK156.out)) : gb156 ≠ gb158)); have n6_ := Aside0.mk ((by rw [hg]; exact Nat.ne_of_gt (blk_lt (bk_ BK156.out)) : gb158 ≠ gb156)); clear BK156; clear HB; have BK156 := n0_; have HB := n1_; have BK158 := n2_; have GW158 := n3_; have GE158 := n4_; have NB156_158 := n5_; have NB158_156 := n6_; clear n0_ n1_ n2_ n3_ n4_ n5_ n6_; clear hb hbox hg; have hnb19 := NB158_156.out; have hnc19 := NB156_158.out; have hcz20_0 := cq_ BK158.out 0 (.int .i64 0); have hcz20_1 := cq_ BK158.out 1 (.int .i64 0); have hcz20_2 := cq_ BK158.out 2 (.int .i64 0); have hfz20_0 := blk_frozen BK158.out 0; have hfz20_1 := blk_frozen BK158.out 1; have hfz20_2 := blk_frozen BK158.out 2))
                go_roundg k1
                case measure => have := HK1.out; omega
                case rel => exact ⟨((rd_T75 l0_1 (ji6)).f1), (by first | rfl | (simp; done) | (simp only [← hji6] <;> (first | rfl | simp)) | (simp [*]; done)), H', ⟨by have := HK1.out; omega⟩, ⟨by (with_reducible repeat (first | refine blk_drewN ?_ _ | refine blk_drew ?_ | refine blk_alloc ?_ _)); refine blk_far ?_ NB156_158.out _; (with_reducible repeat (first | refine blk_drewN ?_ _ | refine blk_drew ?_ | refine blk_alloc ?_ _)); refine blk_far ?_ NB156_158.out _; (with_reducible repeat (first | refine blk_drewN ?_ _ | refine blk_drew ?_ | refine blk_alloc ?_ _)); refine blk_far ?_ NB156_158.out _; (with_reducible repeat (first | refine blk_drewN ?_ _ | refine blk_drew ?_ | refine blk_alloc ?_ _)); exact BK156.out⟩, ⟨bq_⟩⟩
            · rw [if_neg c10] at H
              exact absurd H (by simp)
          · rw [if_neg c8] at H
            exact absurd H (by simp)
        · rw [if_neg c7] at H
          exact absurd H (by simp)
      · rw [if_neg c5] at H
        have c5b0 : decide (1 < x5_1) = false := decide_eq_false c5
        clear c5
        obtain rfl := Option.some.inj H
        go_wp2
        go_ret
        exact ⟨by first | rfl | (simp [errW_none, errW_some] <;> rfl) | (simp [*, errW_none, errW_some] <;> rfl), bq_⟩
def impl_Diagram_table.l0 : Nat → List Bool → Int → Int → Int → List (S75) → Int → Option (List Bool)
  | 0, _, _, _, _, _, _ => none
  | k + 1, x3, x7, x8, x160000, x160001, x160002 => if x8 < x7 then ((impl_Diagram_value.f k x160000 x160001 x160002 x8).bind fun t160 => (if x3.length < 140737488355328 then (impl_Diagram_table.l0 k (x3 ++ [t160]) x7 (wrap64 (x8 + 1)) x160000 x160001 x160002) else (none))) else (some x3)
def impl_Diagram_table.f (k : Nat) (a0_0 : Int) (l0_1 : List (S75)) (a0_2 : Int) : Option (List Bool) := if 0 ≤ a0_0 then (impl_Diagram_table.l0 k ([] : List Bool) (shl .i64 1 a0_0) 0 a0_0 l0_1 a0_2) else (none)
set_option maxHeartbeats 8000000 in
set_option maxRecDepth 100000 in
theorem impl_Diagram_table.calls (k : Nat) (a0_0 : Int) (A0_1 : Option Addr) (c0_1 : Nat) (l0_1 : List (S75)) (a0_2 : Int) (r : List Bool) (w : World) (hr0_1 : Kd.C k75 w A0_1 l0_1.length l0_1) (hc0_1 : l0_1.length ≤ c0_1) (h : impl_Diagram_table.f k a0_0 l0_1 a0_2 = some r) :
    Calls Try.prog 56 #[.agg #[.int .i64 a0_0, .slice A0_1 l0_1.length c0_1, .int .i64 a0_2]] w fun e w' => ∃ v0_ : Value, e = .returned (v0_) ∧ Kd.R Kd.bool 4 w' w.heap.size (fun _ => True) v0_ r ∧ Below w.heap.size w w' := by
  have hu30 := Try.underlying30
  have HR0_1 := Aside0.mk hr0_1
  have HC0_1 := Aside0.mk hc0_1
  clear hr0_1 hc0_1
  have HB := Aside0.mk (Below.refl w.heap.size w)
  have H : (if 0 ≤ a0_0 then (impl_Diagram_table.l0 k ([] : List Bool) (shl .i64 1 a0_0) 0 a0_0 l0_1 a0_2) else (none)) = some r := h
  clear h
  by_cases c2 : 0 ≤ a0_0
  · rw [if_pos c2] at H
    have c2b0 := eq_true c2
    have c2b1 : decide (0 ≤ a0_0) = true := decide_eq_true c2
    clear c2
    obtain ⟨ji3, hji3⟩ : ∃ j_ : Int, (shl .i64 1 a0_0) = j_ := ⟨_, rfl⟩
    replace H : (impl_Diagram_table.l0 k ([] : List Bool) ji3 0 a0_0 l0_1 a0_2) = some r := by first | (rw [hji3] at H; exact H) | (simp only [hji3] at H ⊢; exact H)
    have hji3_ : (IntKind.i64.wrap (1 * 2 ^ min a0_0.toNat 64)) = ji3 := hji3
    have hji3z : a0_0 ≤ 64 → (IntKind.i64.wrap (1 * 2 ^ a0_0.toNat)) = ji3 := shl_small hji3
    have hji3u : (IntKind.i64.wrap (2 ^ min a0_0.toNat 64)) = ji3 := by have h_ := hji3_; rw [Int.one_mul] at h_; exact h_
    have hji3v : a0_0 ≤ 64 → (IntKind.i64.wrap (2 ^ a0_0.toNat)) = ji3 := fun hle_ => by have h_ := hji3z hle_; rw [Int.one_mul] at h_; exact h_
    have hji3y : (wrap64 (1 * 2 ^ min a0_0.toNat 64)) = ji3 := (i64_w _).symm.trans hji3_
    have hji3x : a0_0 ≤ 64 → (wrap64 (1 * 2 ^ a0_0.toNat)) = ji3 := fun h_ => (i64_w _).symm.trans (hji3z h_)
    have H' := Aside0.mk H
    clear H
    go_enter Try.func56, Try.ntmps56
    go_wp2_with (first | ((with_reducible refine gate_dst (N := 1) rfl ?_); refine boxq_ (N := 1) (cs := #[.int .i64 a0_0, .slice A0_1 l0_1.length c0_1, .int .i64 a0_2]) (t := 30) ?_; intro gb159 hg w4 hbox hb; have n0_ := Aside0.mk (below_step (bq_) hb); have n1_ := Aside0.mk (hbox); have n2_ := Aside0.mk ((by rw [hg]; exact (below_size (bq_)) : w.heap.size ≤ gb159)); have n3_ := Aside0.mk ((by rw [hg]; exact (below_size (bq_)) : w.heap.size ≤ gb159)); clear HB; have HB := n0_; have BK159 := n1_; have GW159 := n2_; have GE159 := n3_; clear n0_ n1_ n2_ n3_; clear hb hbox hg; have hcz5_0 := cq_ BK159.out 0 (.int .i64 a0_0); have hcz5_1 := cq_ BK159.out 1 (.slice A0_1 l0_1.length c0_1); have hcz5_2 := cq_ BK159.out 2 (.int .i64 a0_2); have hfz5_0 := blk_frozen BK159.out 0; have hfz5_1 := blk_frozen BK159.out 1; have hfz5_2 := blk_frozen BK159.out 2))
    go_loopg [3, 8] k (fun kq v3 v8 w' => ∃ (x3_1 : List Bool) (x8_1 : Int), v8 = .int .i64 x8_1 ∧ Aside0 (impl_Diagram_table.l0 kq x3_1 ji3 x8_1 a0_0 l0_1 a0_2 = some r) ∧ Aside0 (kq ≤ k) ∧ Aside0 (Kd.R Kd.bool 4 w' w.heap.size (fun _ => True) v3 x3_1) ∧ Aside0 (w'.heap[gb159]? = some (.cells #[.int .i64 a0_0, (.slice A0_1 l0_1.length c0_1), .int .i64 a0_2] 30 (0, 0))) ∧ Aside0 (Below w.heap.size w w'))
    case atStart => exact ⟨(([] : List Bool)), (0), (by first | rfl | (simp; done) | (simp [*]; done)), H', ⟨Nat.le_refl _⟩, ⟨by first | exact Kd.R_nil _ _ _ _ _ | exact Kd.N_nil _ _ _ _ _ | exact Kd.V_nil _ _ _ _ _ | exact Kd.Q_nil _ _ _ _ _ | exact Kd.S_nil _ _ _ _ _⟩, ⟨bk_ BK159.out⟩, ⟨bq_⟩⟩
    case round =>
      clear H'
      try clear c2
      try clear c2b0
      try clear c2b1
      try clear p2
      try clear c5
      try clear hcz5_0
      try clear hcz5_1
      try clear hcz5_2
      try clear hfz5_0
      try clear hfz5_1
      try clear hfz5_2
      obtain ⟨x3_1, x8_1, rfl, HA, HK1, HO_3, BK159, HB⟩ := hrel
      cases gk with
      | zero => exact absurd HA.out (by simp [impl_Diagram_table.l0])
      | succ k1 =>
        have H := HA.out
        clear HA
        simp only [impl_Diagram_table.l0] at H
        by_cases c6 : x8_1 < ji3
        · rw [if_pos c6] at H
          have c6b0 : decide (x8_1 < ji3) = true := decide_eq_true c6
          clear c6
          replace H := Option.bind_eq_some_iff.mp H
          obtain ⟨t160, A70, H⟩ := H
          replace H : (if x3_1.length < 140737488355328 then (impl_Diagram_table.l0 k1 (x3_1 ++ [t160]) ji3 (wrap64 (x8_1 + 1)) a0_0 l0_1 a0_2) else (none)) = some r := H
          have A7 := Aside0.mk A70
          clear A70
          by_cases c8 : x3_1.length < 140737488355328
          · rw [if_pos c8] at H
            have LMc8 := Aside0.mk c8
            clear c8
            obtain ⟨y161, hy161⟩ : ∃ y_ : List Bool, y_ = (x3_1 ++ [t160]) := ⟨_, rfl⟩
            replace H : (impl_Diagram_table.l0 k1 y161 ji3 (wrap64 (x8_1 + 1)) a0_0 l0_1 a0_2) = some r := by first | (rw [hy161]; with_reducible exact H) | (have H2_ := (Option.bind_some _ _).symm.trans H; rw [hy161]; with_reducible exact H2_) | (have H2_ := (Option.bind_some _ _).symm.trans H; with_reducible exact H2_) | with_reducible exact H | (rw [hy161]; exact H) | exact H
            have Ny161 := Aside0.mk hy161
            clear hy161
            have H' := Aside0.mk H
            clear H
            have hcz9_0 := cq_ BK159.out 0 (.int .i64 a0_0)
            have hcz9_1 := cq_ BK159.out 1 (.slice A0_1 l0_1.length c0_1)
            have hcz9_2 := cq_ BK159.out 2 (.int .i64 a0_2)
            have hfz9_0 := blk_frozen BK159.out 0
            have hfz9_1 := blk_frozen BK159.out 1
            have hfz9_2 := blk_frozen BK159.out 2
            go_wp2_with (first | ((with_reducible refine gate_callee (f := 59) rfl ?_); refine goesL_ (some 14) rfl rfl Try.func59 (by kernel_rfl) rfl #[.agg #[.int .i64 a0_0, .slice A0_1 l0_1.length c0_1, .int .i64 a0_2], .int .i64 x8_1] rfl (by (try simp only [List.map_toArray, List.map_cons, List.map_nil]); first | done | rfl | (simp only [List.length_drop, List.length_take]; rfl)) ?_; (with_reducible refine (impl_Diagram_value.calls k1 a0_0 _ _ l0_1 a0_2 x8_1 t160 _ ?side1 ?side2 A7.out).mono ?_); (case side1 => repeat (first | exact (Kd.C_below HR0_1.out HB.out) | (with_reducible refine Kd.C_alloc ?_ _) | (with_reducible refine Kd.C_drewN ?_ _) | (with_reducible refine Kd.C_drew ?_))); (case side2 => exact HC0_1.out); rintro e w10 ⟨rfl, hb⟩; refine ⟨_, rfl, ?_⟩; have n0_ := Aside0.mk (Kd.R_below (rq_ HO_3.out) hb); have n1_ := Aside0.mk (blk_below (bk_ BK159.out) hb); have n2_ := Aside0.mk (below_step (bq_) hb); clear HO_3; clear BK159; clear HB; have HO_3 := n0_; have BK159 := n1_; have HB := n2_; clear n0_ n1_ n2_; (try clear hb); (try clear hb2); (try clear hk); (try clear hi)) | ((with_reducible refine gate_builtin (b := .append) (xs := #[.tmp 11, .tmp 15]) rfl ?_); at_builtin; refine Kd.R_append Kd.bool (w0 := w) w.heap.size rfl (.tmp 11) (.tmp 15) 34 4 (.bool false) 1 rfl Try.underlying34 info4 rfl (by decide) (by omega) u3 x3_1 t160 [.bool t160] (fun _ => True) (fun _ => False) rfl rfl ?aP (fun _ hk => hk.elim) ?aF ?aO ?aB ?aS ?aL ?_; (case aP => exact rfl); (case aB => exact (bq_)); (case aF => exact (fun _ _ => trivial)); (case aO => exact (rq_ HO_3.out)); (case aS => exact (below_size (bq_))); (case aL => have := LMc8.out; omega); intro v162 w11 ho hb hg hat; rw [← Ny161.out] at ho; have n0_ := Aside0.mk (blk_grown (bk_ BK159.out) hg (Kd.R_ne HO_3.out BK159.out (by decide))); have n1_ := Aside0.mk (hb); have n2_ := Aside0.mk (ho); clear BK159; clear HB; clear HO_3; have BK159 := n0_; have HB := n1_; have HO163 := n2_; clear n0_ n1_ n2_; clear ho hb hg hat))
            go_roundg k1
            case measure => have := HK1.out; omega
            case rel => exact ⟨(y161), (wrap64 (x8_1 + 1)), (by first | rfl | (simp; done) | (simp [*]; done)), H', ⟨by have := HK1.out; omega⟩, ⟨rq_ HO163.out⟩, ⟨bk_ BK159.out⟩, ⟨bq_⟩⟩
          · rw [if_neg c8] at H
            exact absurd H (by simp)
        · rw [if_neg c6] at H
          have c6b0 : decide (x8_1 < ji3) = false := decide_eq_false c6
          clear c6
          obtain rfl := Option.some.inj H
          go_wp2
          go_ret
          exact ⟨_, by first | rfl | (simp [errW_none, errW_some] <;> rfl) | (simp only [← hji3]; first | rfl | (simp [errW_none, errW_some] <;> rfl)) | (simp [*, errW_none, errW_some] <;> rfl), rq_ HO_3.out, bq_⟩
  · rw [if_neg c2] at H
    exact absurd H (by simp)
end Go.Proofs.Ytpndhlcbfobelaa.PDD
