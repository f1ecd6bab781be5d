import Derived.Test.YtpndhlcbfobelaaPDXx0
import Derived.Test.YtpndhlcbfobelaaPDXx1
import Derived.Test.YtpndhlcbfobelaaPDXx6
import Derived.Test.YtpndhlcbfobelaaPDXx7
namespace Go.Proofs.Ytpndhlcbfobelaa.PDX
open Go.RowKit Go.Proofs.YtpndhlcbfobelaaW.PrintWords Go.Proofs.YtpndhlcbfobelaaW.PrintLast Go.Proofs.YtpndhlcbfobelaaW.PrintMore
attribute [local go_sem] max2_int min2_int max_two min_two max_three min_three max_four min_four   -- for this text's walks alone
set_option linter.unusedVariables false
set_option linter.unusedSimpArgs false
attribute [local go_sem high] eqA75
mutual
def spec_GoodDiagram.j0 : Nat → Bool → Int → List (S75) → Int → Int → List (S75) → Int → Option (Bool)
 | 0, _, _, _, _, _, _, _ => none
 | k + 1, x32, x169000, x169001, x169002, x179000, x179001, x179002 => if x32 = true then (some false) else (spec_GoodDiagram.l0 k x179001 (x179001.length : Int) 0 x169000 x169001 x169002)
def spec_GoodDiagram.l0 : Nat → List (S75) → Int → Int → Int → List (S75) → Int → Option (Bool)
 | 0, _, _, _, _, _, _ => none
 | k + 1, x34, x35, x36, x169000, x169001, x169002 => if x36 < x35 then (if 0 ≤ x36 then (if x36 < (x34.length : Int) then (if x36 < (x169001.length : Int) then (if (!(((rd_T75 x169001 x36).f0) == ((rd_T75 x34 x36).f0)) || (!(((rd_T75 x169001 x36).f1) == ((rd_T75 x34 x36).f1)) || (!(((rd_T75 x169001 x36).f2) == ((rd_T75 x34 x36).f2))))) = true then (some false) else (spec_GoodDiagram.l0 k x34 x35 (wrap64 (x36 + 1)) x169000 x169001 x169002)) else (none)) else (none)) else (none)) else (some true)
end
def spec_GoodDiagram.f (k : Nat) (a0_0 : Int) (l0_1 : List (S75)) (a0_2 : Int) : Option (Bool) := (spec_l7Table.f k a0_0 l0_1 a0_2).bind fun bt169 => (if bt169.2 = true then ((spec_l7Of.f k a0_0 bt169.1).bind fun bt173 => (if bt173.2.2 = a0_2 then (spec_GoodDiagram.j0 k ((bt173.2.1.length : Int) != (l0_1.length : Int)) a0_0 l0_1 a0_2 bt173.1 bt173.2.1 bt173.2.2) else (spec_GoodDiagram.j0 k true a0_0 l0_1 a0_2 bt173.1 bt173.2.1 bt173.2.2))) else (some false))
set_option maxHeartbeats 8000000 in
set_option maxRecDepth 100000 in
theorem spec_GoodDiagram.calls (k : Nat) (a0_0 : Int) (A0_1 : Option Addr) (c0_1 : Nat) (l0_1 : List (S75)) (a0_2 : Int) (r : Bool) (w : World) (hr0_1 : Kd.C k75 w A0_1 l0_1.length l0_1) (hc0_1 : l0_1.length ≤ c0_1) (h : spec_GoodDiagram.f k a0_0 l0_1 a0_2 = some r) :
  Calls Try.prog 48 #[.agg #[.int .i64 a0_0, .slice A0_1 l0_1.length c0_1, .int .i64 a0_2]] w fun e w' => e = .returned (.bool r) ∧ Below w.heap.size w w' := by
 have hu30 := Try.underlying30
 have hu75 := Try.underlying75
 have HR0_1 := am_ hr0_1
 have HC0_1 := am_ hc0_1
 clear hr0_1 hc0_1
 have HB := am_ (Below.refl w.heap.size w)
 have H : ((spec_l7Table.f k a0_0 l0_1 a0_2).bind fun bt169 => (if bt169.2 = true then ((spec_l7Of.f k a0_0 bt169.1).bind fun bt173 => (if bt173.2.2 = a0_2 then (spec_GoodDiagram.j0 k ((bt173.2.1.length : Int) != (l0_1.length : Int)) a0_0 l0_1 a0_2 bt173.1 bt173.2.1 bt173.2.2) else (spec_GoodDiagram.j0 k true a0_0 l0_1 a0_2 bt173.1 bt173.2.1 bt173.2.2))) else (some false))) = some r := h
 clear h
 replace H := Option.bind_eq_some_iff.mp H
 obtain ⟨⟨t169, t172⟩, A20, H⟩ := H
 replace H : (if t172 = true then ((spec_l7Of.f k a0_0 t169).bind fun bt173 => (if bt173.2.2 = a0_2 then (spec_GoodDiagram.j0 k ((bt173.2.1.length : Int) != (l0_1.length : Int)) a0_0 l0_1 a0_2 bt173.1 bt173.2.1 bt173.2.2) else (spec_GoodDiagram.j0 k true a0_0 l0_1 a0_2 bt173.1 bt173.2.1 bt173.2.2))) else (some false)) = some r := H
 have A2 := am_ A20
 clear A20
 by_cases c3 : t172 = true
 ·subst c3
  have H1 : ((spec_l7Of.f k a0_0 t169).bind fun bt173 => (if bt173.2.2 = a0_2 then (spec_GoodDiagram.j0 k ((bt173.2.1.length : Int) != (l0_1.length : Int)) a0_0 l0_1 a0_2 bt173.1 bt173.2.1 bt173.2.2) else (spec_GoodDiagram.j0 k true a0_0 l0_1 a0_2 bt173.1 bt173.2.1 bt173.2.2))) = some r := by rw [if_pos rfl] at H; exact H
  clear H
  have H := H1
  clear H1
  replace H := Option.bind_eq_some_iff.mp H
  obtain ⟨⟨t173, t174, t177⟩, A40, H⟩ := H
  replace H : (if t177 = a0_2 then (spec_GoodDiagram.j0 k ((t174.length : Int) != (l0_1.length : Int)) a0_0 l0_1 a0_2 t173 t174 t177) else (spec_GoodDiagram.j0 k true a0_0 l0_1 a0_2 t173 t174 t177)) = some r := H
  have A4 := am_ A40
  clear A40
  have HC5 := am_ H
  clear H
  go_enter Try.func48, Try.ntmps48
  go_upto_region 5 with (first | ((with_reducible refine gate_dst (N := 1) rfl ?_); (try (refine gate_guard (by rfl) ?_; dsimp only)); refine boxq_ (N := 1) (cs := #[.int .i64 a0_0, .slice A0_1 l0_1.length c0_1, .int .i64 a0_2]) (t := 30) ?_; intro gb168 hg w6 hbox hb; have BK168 := am_ (hbox); have GW168 := gz_ hg; have GE168 := gz_ hg; replace HB := bs_ hb; clear hb hbox hg; have hcz7_0 := cq_ BK168.out 0 (.int .i64 a0_0); have hcz7_1 := cq_ BK168.out 1 (.slice A0_1 l0_1.length c0_1); have hcz7_2 := cq_ BK168.out 2 (.int .i64 a0_2); have hfz7_0 := blk_frozen BK168.out 0; have hfz7_1 := blk_frozen BK168.out 1; have hfz7_2 := blk_frozen BK168.out 2) | (go_at_call 60; (with_reducible refine (spec_l7Table.calls k a0_0 _ _ l0_1 a0_2 t169 true _ ?side1 ?side2 A2.out).mono ?_); (case side1 => exact cm_ (Kd.C_below HR0_1.out HB.out)); (case side2 => exact HC0_1.out); rintro e w8 ⟨v170, rfl, ho0, hb⟩; have HO171 := am_ (Kd.R_lower ho0 (below_size (bq_))); replace BK168 := bb_ BK168 hb; replace HB := bs_ hb; (try clear hb); (try clear ho0); have hcz9_0 := cq_ BK168.out 0 (.int .i64 a0_0); have hcz9_1 := cq_ BK168.out 1 (.slice A0_1 l0_1.length c0_1); have hcz9_2 := cq_ BK168.out 2 (.int .i64 a0_2); have hfz9_0 := blk_frozen BK168.out 0; have hfz9_1 := blk_frozen BK168.out 1; have hfz9_2 := blk_frozen BK168.out 2; obtain ⟨Ao10, co10, eo10⟩ := Kd.R_slice HO171.out; subst eo10) | (go_at_call 62; (with_reducible refine (spec_l7Of.calls k a0_0 _ _ t169 t173 t174 t177 _ ?side1 ?side2 A4.out).mono ?_); (case side1 => exact cm_ (Kd.R_reads' HO171.out).2.2); (case side2 => exact (Kd.R_reads' HO171.out).2.1); rintro e w11 ⟨v175, rfl, ho0, hb⟩; replace HO171 := am_ (Kd.R_below (rq_ HO171.out) hb); have HO176 := am_ (Kd.R_lower ho0 (below_size (bq_))); replace BK168 := bb_ BK168 hb; replace HB := bs_ hb; (try clear hb); (try clear ho0)) | ((with_reducible refine gate_dst (N := 5) rfl ?_); (try (refine gate_guard (by rfl) ?_; dsimp only)); refine boxq_ (N := 5) (cs := #[.int .i64 0, .slice none 0 0, .int .i64 0]) (t := 30) ?_; intro gb178 hg w12 hbox hb; replace HO171 := am_ (Kd.R_below (rq_ HO171.out) hb); replace HO176 := am_ (Kd.R_below (rq_ HO176.out) hb); have BK178 := am_ (hbox); have GW178 := gz_ hg; have GE178 := gz_ hg; replace HB := bs_ hb; have NB168_178 := nl_ BK168 hg; have NB178_168 := nr_ BK168 hg; replace BK168 := bb_ BK168 hb; clear hb hbox hg; have hnb13 := NB178_168.out; have hnc13 := NB168_178.out; have hcz14_0 := cq_ BK178.out 0 (.int .i64 0); have hcz14_1 := cq_ BK178.out 1 (.slice none 0 0); have hcz14_2 := cq_ BK178.out 2 (.int .i64 0); have hfz14_0 := blk_frozen BK178.out 0; have hfz14_1 := blk_frozen BK178.out 1; have hfz14_2 := blk_frozen BK178.out 2; obtain ⟨Ao15, co15, eo15⟩ := Kd.R_slice HO176.out; subst eo15))
  repeat (go_quiet (first | ((with_reducible refine gate_dst (N := 1) rfl ?_); (try (refine gate_guard (by rfl) ?_; dsimp only)); refine boxq_ (N := 1) (cs := #[.int .i64 a0_0, .slice A0_1 l0_1.length c0_1, .int .i64 a0_2]) (t := 30) ?_; intro gb168 hg w6 hbox hb; have BK168 := am_ (hbox); have GW168 := gz_ hg; have GE168 := gz_ hg; replace HB := bs_ hb; clear hb hbox hg; have hcz7_0 := cq_ BK168.out 0 (.int .i64 a0_0); have hcz7_1 := cq_ BK168.out 1 (.slice A0_1 l0_1.length c0_1); have hcz7_2 := cq_ BK168.out 2 (.int .i64 a0_2); have hfz7_0 := blk_frozen BK168.out 0; have hfz7_1 := blk_frozen BK168.out 1; have hfz7_2 := blk_frozen BK168.out 2) | (go_at_call 60; (with_reducible refine (spec_l7Table.calls k a0_0 _ _ l0_1 a0_2 t169 true _ ?side1 ?side2 A2.out).mono ?_); (case side1 => exact cm_ (Kd.C_below HR0_1.out HB.out)); (case side2 => exact HC0_1.out); rintro e w8 ⟨v170, rfl, ho0, hb⟩; have HO171 := am_ (Kd.R_lower ho0 (below_size (bq_))); replace BK168 := bb_ BK168 hb; replace HB := bs_ hb; (try clear hb); (try clear ho0); have hcz9_0 := cq_ BK168.out 0 (.int .i64 a0_0); have hcz9_1 := cq_ BK168.out 1 (.slice A0_1 l0_1.length c0_1); have hcz9_2 := cq_ BK168.out 2 (.int .i64 a0_2); have hfz9_0 := blk_frozen BK168.out 0; have hfz9_1 := blk_frozen BK168.out 1; have hfz9_2 := blk_frozen BK168.out 2; obtain ⟨Ao10, co10, eo10⟩ := Kd.R_slice HO171.out; subst eo10) | (go_at_call 62; (with_reducible refine (spec_l7Of.calls k a0_0 _ _ t169 t173 t174 t177 _ ?side1 ?side2 A4.out).mono ?_); (case side1 => exact cm_ (Kd.R_reads' HO171.out).2.2); (case side2 => exact (Kd.R_reads' HO171.out).2.1); rintro e w11 ⟨v175, rfl, ho0, hb⟩; replace HO171 := am_ (Kd.R_below (rq_ HO171.out) hb); have HO176 := am_ (Kd.R_lower ho0 (below_size (bq_))); replace BK168 := bb_ BK168 hb; replace HB := bs_ hb; (try clear hb); (try clear ho0)) | ((with_reducible refine gate_dst (N := 5) rfl ?_); (try (refine gate_guard (by rfl) ?_; dsimp only)); refine boxq_ (N := 5) (cs := #[.int .i64 0, .slice none 0 0, .int .i64 0]) (t := 30) ?_; intro gb178 hg w12 hbox hb; replace HO171 := am_ (Kd.R_below (rq_ HO171.out) hb); replace HO176 := am_ (Kd.R_below (rq_ HO176.out) hb); have BK178 := am_ (hbox); have GW178 := gz_ hg; have GE178 := gz_ hg; replace HB := bs_ hb; have NB168_178 := nl_ BK168 hg; have NB178_168 := nr_ BK168 hg; replace BK168 := bb_ BK168 hb; clear hb hbox hg; have hnb13 := NB178_168.out; have hnc13 := NB168_178.out; have hcz14_0 := cq_ BK178.out 0 (.int .i64 0); have hcz14_1 := cq_ BK178.out 1 (.slice none 0 0); have hcz14_2 := cq_ BK178.out 2 (.int .i64 0); have hfz14_0 := blk_frozen BK178.out 0; have hfz14_1 := blk_frozen BK178.out 1; have hfz14_2 := blk_frozen BK178.out 2; obtain ⟨Ao15, co15, eo15⟩ := Kd.R_slice HO176.out; subst eo15)); go_upto_region 5 with (first | ((with_reducible refine gate_dst (N := 1) rfl ?_); (try (refine gate_guard (by rfl) ?_; dsimp only)); refine boxq_ (N := 1) (cs := #[.int .i64 a0_0, .slice A0_1 l0_1.length c0_1, .int .i64 a0_2]) (t := 30) ?_; intro gb168 hg w6 hbox hb; have BK168 := am_ (hbox); have GW168 := gz_ hg; have GE168 := gz_ hg; replace HB := bs_ hb; clear hb hbox hg; have hcz7_0 := cq_ BK168.out 0 (.int .i64 a0_0); have hcz7_1 := cq_ BK168.out 1 (.slice A0_1 l0_1.length c0_1); have hcz7_2 := cq_ BK168.out 2 (.int .i64 a0_2); have hfz7_0 := blk_frozen BK168.out 0; have hfz7_1 := blk_frozen BK168.out 1; have hfz7_2 := blk_frozen BK168.out 2) | (go_at_call 60; (with_reducible refine (spec_l7Table.calls k a0_0 _ _ l0_1 a0_2 t169 true _ ?side1 ?side2 A2.out).mono ?_); (case side1 => exact cm_ (Kd.C_below HR0_1.out HB.out)); (case side2 => exact HC0_1.out); rintro e w8 ⟨v170, rfl, ho0, hb⟩; have HO171 := am_ (Kd.R_lower ho0 (below_size (bq_))); replace BK168 := bb_ BK168 hb; replace HB := bs_ hb; (try clear hb); (try clear ho0); have hcz9_0 := cq_ BK168.out 0 (.int .i64 a0_0); have hcz9_1 := cq_ BK168.out 1 (.slice A0_1 l0_1.length c0_1); have hcz9_2 := cq_ BK168.out 2 (.int .i64 a0_2); have hfz9_0 := blk_frozen BK168.out 0; have hfz9_1 := blk_frozen BK168.out 1; have hfz9_2 := blk_frozen BK168.out 2; obtain ⟨Ao10, co10, eo10⟩ := Kd.R_slice HO171.out; subst eo10) | (go_at_call 62; (with_reducible refine (spec_l7Of.calls k a0_0 _ _ t169 t173 t174 t177 _ ?side1 ?side2 A4.out).mono ?_); (case side1 => exact cm_ (Kd.R_reads' HO171.out).2.2); (case side2 => exact (Kd.R_reads' HO171.out).2.1); rintro e w11 ⟨v175, rfl, ho0, hb⟩; replace HO171 := am_ (Kd.R_below (rq_ HO171.out) hb); have HO176 := am_ (Kd.R_lower ho0 (below_size (bq_))); replace BK168 := bb_ BK168 hb; replace HB := bs_ hb; (try clear hb); (try clear ho0)) | ((with_reducible refine gate_dst (N := 5) rfl ?_); (try (refine gate_guard (by rfl) ?_; dsimp only)); refine boxq_ (N := 5) (cs := #[.int .i64 0, .slice none 0 0, .int .i64 0]) (t := 30) ?_; intro gb178 hg w12 hbox hb; replace HO171 := am_ (Kd.R_below (rq_ HO171.out) hb); replace HO176 := am_ (Kd.R_below (rq_ HO176.out) hb); have BK178 := am_ (hbox); have GW178 := gz_ hg; have GE178 := gz_ hg; replace HB := bs_ hb; have NB168_178 := nl_ BK168 hg; have NB178_168 := nr_ BK168 hg; replace BK168 := bb_ BK168 hb; clear hb hbox hg; have hnb13 := NB178_168.out; have hnc13 := NB168_178.out; have hcz14_0 := cq_ BK178.out 0 (.int .i64 0); have hcz14_1 := cq_ BK178.out 1 (.slice none 0 0); have hcz14_2 := cq_ BK178.out 2 (.int .i64 0); have hfz14_0 := blk_frozen BK178.out 0; have hfz14_1 := blk_frozen BK178.out 1; have hfz14_2 := blk_frozen BK178.out 2; obtain ⟨Ao15, co15, eo15⟩ := Kd.R_slice HO176.out; subst eo15)))
  (try simp only [Act.put, List.setIfInBounds_toArray, List.set_cons_zero, List.set_cons_succ])
  go_cut [32] (fun v32 wc => ∃ (kq : Nat) (x32_4 : Bool), v32 = .bool x32_4 ∧ Aside0 (spec_GoodDiagram.j0 kq x32_4 a0_0 l0_1 a0_2 t173 t174 t177 = some r) ∧ Aside0 (kq ≤ k) ∧ Aside0 (Kd.R k75 75 wc w.heap.size (fun _ => True) (.slice Ao15 t174.length co15) t174) ∧ Aside0 (wc.heap[gb168]? = some (.cells #[.int .i64 a0_0, (.slice A0_1 l0_1.length c0_1), .int .i64 a0_2] 30 (0, 0))) ∧ Aside0 (wc.heap[gb178]? = some (.cells #[.int .i64 t173, (.slice Ao15 t174.length co15), .int .i64 t177] 30 (0, 0))) ∧ Aside0 (Below w.heap.size w wc))
  case first =>
   have H := HC5.out
   clear HC5
   by_cases c16 : t177 = a0_2
   ·rw [if_pos c16] at H
    have c16b0 : (t177 == a0_2) = true := beq_iff_eq.mpr c16
    have c16b1 : (t177 != a0_2) = false := bne_eq_false_iff_eq.mpr c16
    clear c16
    (first | rw [c16b0] | (simp only [i64_w, i32_w]; rw [c16b0]) | skip)
    have H' := am_ H
    clear H
    have hnb17 := NB178_168.out
    have hnc17 := NB168_178.out
    have hcz18_0 := cq_ BK178.out 0 (.int .i64 0)
    have hcz18_1 := cq_ BK178.out 1 (.slice none 0 0)
    have hcz18_2 := cq_ BK178.out 2 (.int .i64 0)
    have hfz18_0 := blk_frozen BK178.out 0
    have hfz18_1 := blk_frozen BK178.out 1
    have hfz18_2 := blk_frozen BK178.out 2
    have hcz19_0 := cq_ BK168.out 0 (.int .i64 a0_0)
    have hcz19_1 := cq_ BK168.out 1 (.slice A0_1 l0_1.length c0_1)
    have hcz19_2 := cq_ BK168.out 2 (.int .i64 a0_2)
    have hfz19_0 := blk_frozen BK168.out 0
    have hfz19_1 := blk_frozen BK168.out 1
    have hfz19_2 := blk_frozen BK168.out 2
    go_wp2
    repeat (go_quiet (fail); try go_wp2)
    go_meet
    case rel => exact ⟨_, (((t174.length : Int) != (l0_1.length : Int))), y30_, H', ⟨by first | omega | exact Nat.le_refl _⟩, ⟨rq_ (Kd.R_mono (Kd.R_far (p := ⟨gb178, 2, none⟩) (Kd.R_far (p := ⟨gb178, 1, none⟩) (Kd.R_far (p := ⟨gb178, 0, none⟩) (Kd.R_types HO176.out BK178.out (by decide)) (fun _ hk => hk.2) (.int .i64 t173)) (fun _ hk => hk.2) (.slice Ao15 t174.length co15)) (fun _ hk => hk.2) (.int .i64 t177)) (fun _ hk => trivial))⟩, ⟨by (with_reducible repeat (first | refine blk_drewN ?_ _ | refine blk_drew ?_ | refine blk_alloc ?_ _)); refine blk_far ?_ NB168_178.out _; (with_reducible repeat (first | refine blk_drewN ?_ _ | refine blk_drew ?_ | refine blk_alloc ?_ _)); refine blk_far ?_ NB168_178.out _; (with_reducible repeat (first | refine blk_drewN ?_ _ | refine blk_drew ?_ | refine blk_alloc ?_ _)); refine blk_far ?_ NB168_178.out _; (with_reducible repeat (first | refine blk_drewN ?_ _ | refine blk_drew ?_ | refine blk_alloc ?_ _)); exact BK168.out⟩, ⟨by (with_reducible repeat (first | refine blk_drewN ?_ _ | refine blk_drew ?_ | refine blk_alloc ?_ _)); refine blk_put (cs := #[.int .i64 t173, .slice Ao15 t174.length co15, .int .i64 0]) ?_ 2 _ rfl; (with_reducible repeat (first | refine blk_drewN ?_ _ | refine blk_drew ?_ | refine blk_alloc ?_ _)); refine blk_put (cs := #[.int .i64 t173, .slice none 0 0, .int .i64 0]) ?_ 1 _ rfl; (with_reducible repeat (first | refine blk_drewN ?_ _ | refine blk_drew ?_ | refine blk_alloc ?_ _)); refine blk_put (cs := #[.int .i64 0, .slice none 0 0, .int .i64 0]) ?_ 0 _ rfl; (with_reducible repeat (first | refine blk_drewN ?_ _ | refine blk_drew ?_ | refine blk_alloc ?_ _)); exact BK178.out⟩, ⟨bq_⟩⟩
   ·rw [if_neg c16] at H
    have c16b0 : (t177 == a0_2) = false := beq_eq_false_iff_ne.mpr c16
    have c16b1 : (t177 != a0_2) = true := bne_iff_ne.mpr c16
    (first | rw [c16b0] | (simp only [i64_w, i32_w]; rw [c16b0]) | skip)
    have H' := am_ H
    clear H
    have hnb20 := NB178_168.out
    have hnc20 := NB168_178.out
    have hcz21_0 := cq_ BK178.out 0 (.int .i64 0)
    have hcz21_1 := cq_ BK178.out 1 (.slice none 0 0)
    have hcz21_2 := cq_ BK178.out 2 (.int .i64 0)
    have hfz21_0 := blk_frozen BK178.out 0
    have hfz21_1 := blk_frozen BK178.out 1
    have hfz21_2 := blk_frozen BK178.out 2
    have hcz22_0 := cq_ BK168.out 0 (.int .i64 a0_0)
    have hcz22_1 := cq_ BK168.out 1 (.slice A0_1 l0_1.length c0_1)
    have hcz22_2 := cq_ BK168.out 2 (.int .i64 a0_2)
    have hfz22_0 := blk_frozen BK168.out 0
    have hfz22_1 := blk_frozen BK168.out 1
    have hfz22_2 := blk_frozen BK168.out 2
    go_wp2
    repeat (go_quiet (fail); try go_wp2)
    go_meet
    case rel => exact ⟨_, (true), y30_, H', ⟨by first | omega | exact Nat.le_refl _⟩, ⟨rq_ (Kd.R_mono (Kd.R_far (p := ⟨gb178, 2, none⟩) (Kd.R_far (p := ⟨gb178, 1, none⟩) (Kd.R_far (p := ⟨gb178, 0, none⟩) (Kd.R_types HO176.out BK178.out (by decide)) (fun _ hk => hk.2) (.int .i64 t173)) (fun _ hk => hk.2) (.slice Ao15 t174.length co15)) (fun _ hk => hk.2) (.int .i64 t177)) (fun _ hk => trivial))⟩, ⟨by (with_reducible repeat (first | refine blk_drewN ?_ _ | refine blk_drew ?_ | refine blk_alloc ?_ _)); refine blk_far ?_ NB168_178.out _; (with_reducible repeat (first | refine blk_drewN ?_ _ | refine blk_drew ?_ | refine blk_alloc ?_ _)); refine blk_far ?_ NB168_178.out _; (with_reducible repeat (first | refine blk_drewN ?_ _ | refine blk_drew ?_ | refine blk_alloc ?_ _)); refine blk_far ?_ NB168_178.out _; (with_reducible repeat (first | refine blk_drewN ?_ _ | refine blk_drew ?_ | refine blk_alloc ?_ _)); exact BK168.out⟩, ⟨by (with_reducible repeat (first | refine blk_drewN ?_ _ | refine blk_drew ?_ | refine blk_alloc ?_ _)); refine blk_put (cs := #[.int .i64 t173, .slice Ao15 t174.length co15, .int .i64 0]) ?_ 2 _ rfl; (with_reducible repeat (first | refine blk_drewN ?_ _ | refine blk_drew ?_ | refine blk_alloc ?_ _)); refine blk_put (cs := #[.int .i64 t173, .slice none 0 0, .int .i64 0]) ?_ 1 _ rfl; (with_reducible repeat (first | refine blk_drewN ?_ _ | refine blk_drew ?_ | refine blk_alloc ?_ _)); refine blk_put (cs := #[.int .i64 0, .slice none 0 0, .int .i64 0]) ?_ 0 _ rfl; (with_reducible repeat (first | refine blk_drewN ?_ _ | refine blk_drew ?_ | refine blk_alloc ?_ _)); exact BK178.out⟩, ⟨bq_⟩⟩
  case rest =>
   clear HC5
   try clear c1
   try clear c2
   try clear p2
   try clear c3
   try clear c4
   try clear c13
   try clear c16
   try clear c16b0
   try clear c16b1
   try clear c17
   try clear c20
   try clear hcz14_0
   try clear hcz14_1
   try clear hcz14_2
   try clear hcz18_0
   try clear hcz18_1
   try clear hcz18_2
   try clear hcz19_0
   try clear hcz19_1
   try clear hcz19_2
   try clear hcz21_0
   try clear hcz21_1
   try clear hcz21_2
   try clear hcz22_0
   try clear hcz22_1
   try clear hcz22_2
   try clear hcz7_0
   try clear hcz7_1
   try clear hcz7_2
   try clear hcz9_0
   try clear hcz9_1
   try clear hcz9_2
   try clear hfz14_0
   try clear hfz14_1
   try clear hfz14_2
   try clear hfz18_0
   try clear hfz18_1
   try clear hfz18_2
   try clear hfz19_0
   try clear hfz19_1
   try clear hfz19_2
   try clear hfz21_0
   try clear hfz21_1
   try clear hfz21_2
   try clear hfz22_0
   try clear hfz22_1
   try clear hfz22_2
   try clear hfz7_0
   try clear hfz7_1
   try clear hfz7_2
   try clear hfz9_0
   try clear hfz9_1
   try clear hfz9_2
   obtain ⟨kq, x32_4, rfl, HA, HJ4, HO_179001, BK168, BK178, HB⟩ := hcut
   cases kq with
   | zero => exact absurd HA.out (by simp [spec_GoodDiagram.j0])
   | succ kj4 =>
    have H := HA.out
    clear HA
    simp only [spec_GoodDiagram.j0] at H
    by_cases c23 : x32_4 = true
    ·subst c23
     have H1 : (some false) = some r := by rw [if_pos rfl] at H; exact H
     clear H
     have H := H1
     clear H1
     obtain rfl := Option.some.inj H
     go_wp2
     repeat (go_quiet (fail); try go_wp2)
     go_ret
     exact ⟨by first | rfl | (simp [errW_none, errW_some] <;> rfl) | (simp [*, errW_none, errW_some] <;> rfl), bq_⟩
    ·replace c23 := Bool.eq_false_iff.mpr c23
     subst c23
     have H1 : (spec_GoodDiagram.l0 kj4 t174 (t174.length : Int) 0 a0_0 l0_1 a0_2) = some r := by rw [if_neg (show ¬ (false = true) by decide)] at H; exact H
     clear H
     have H := H1
     clear H1
     have H' := am_ H
     clear H
     have hnb24 := NB178_168.out
     have hnc24 := NB168_178.out
     have hcz25_0 := cq_ BK178.out 0 (.int .i64 t173)
     have hcz25_1 := cq_ BK178.out 1 (.slice Ao15 t174.length co15)
     have hcz25_2 := cq_ BK178.out 2 (.int .i64 t177)
     have hfz25_0 := blk_frozen BK178.out 0
     have hfz25_1 := blk_frozen BK178.out 1
     have hfz25_2 := blk_frozen BK178.out 2
     go_wp2
     repeat (go_quiet (fail); try go_wp2)
     go_loopg [36] kj4 (fun kq v36 w' => ∃ (x36_2 : Int), v36 = .int .i64 x36_2 ∧ Aside0 (spec_GoodDiagram.l0 kq t174 (t174.length : Int) x36_2 a0_0 l0_1 a0_2 = some r) ∧ Aside0 (kq ≤ kj4) ∧ Aside0 (Kd.R k75 75 w' w.heap.size (fun _ => True) (.slice Ao15 t174.length co15) t174) ∧ Aside0 (Kd.R k75 75 w' w.heap.size (fun _ => True) (.slice Ao15 t174.length co15) t174) ∧ Aside0 (w'.heap[gb168]? = some (.cells #[.int .i64 a0_0, (.slice A0_1 l0_1.length c0_1), .int .i64 a0_2] 30 (0, 0))) ∧ Aside0 (w'.heap[gb178]? = some (.cells #[.int .i64 t173, (.slice Ao15 t174.length co15), .int .i64 t177] 30 (0, 0))) ∧ Aside0 (Below w.heap.size w w'))
     case atStart => exact ⟨(0), y30_, H', ⟨Nat.le_refl _⟩, ⟨rq_ HO_179001.out⟩, ⟨rq_ HO_179001.out⟩, ⟨bk_ BK168.out⟩, ⟨bk_ BK178.out⟩, ⟨bq_⟩⟩
     case round =>
      clear H'
      try clear c1
      try clear c2
      try clear p2
      try clear c3
      try clear c4
      try clear c13
      try clear c16
      try clear c16b0
      try clear c16b1
      try clear c17
      try clear c20
      try clear c23
      try clear c24
      try clear hcz14_0
      try clear hcz14_1
      try clear hcz14_2
      try clear hcz18_0
      try clear hcz18_1
      try clear hcz18_2
      try clear hcz19_0
      try clear hcz19_1
      try clear hcz19_2
      try clear hcz21_0
      try clear hcz21_1
      try clear hcz21_2
      try clear hcz22_0
      try clear hcz22_1
      try clear hcz22_2
      try clear hcz25_0
      try clear hcz25_1
      try clear hcz25_2
      try clear hcz7_0
      try clear hcz7_1
      try clear hcz7_2
      try clear hcz9_0
      try clear hcz9_1
      try clear hcz9_2
      try clear hfz14_0
      try clear hfz14_1
      try clear hfz14_2
      try clear hfz18_0
      try clear hfz18_1
      try clear hfz18_2
      try clear hfz19_0
      try clear hfz19_1
      try clear hfz19_2
      try clear hfz21_0
      try clear hfz21_1
      try clear hfz21_2
      try clear hfz22_0
      try clear hfz22_1
      try clear hfz22_2
      try clear hfz25_0
      try clear hfz25_1
      try clear hfz25_2
      try clear hfz7_0
      try clear hfz7_1
      try clear hfz7_2
      try clear hfz9_0
      try clear hfz9_1
      try clear hfz9_2
      try clear p2
      obtain ⟨x36_2, rfl, HA, HK2, HO_34, HO_179001, BK168, BK178, HB⟩ := hrel
      cases gk with
      | zero => exact absurd HA.out (by simp [spec_GoodDiagram.l0])
      | succ k2 =>
       have H := HA.out
       clear HA
       simp only [spec_GoodDiagram.l0] at H
       by_cases c26 : x36_2 < (t174.length : Int)
       ·rw [if_pos c26] at H
        have c26b0 : decide (x36_2 < (t174.length : Int)) = true := decide_eq_true c26
        clear c26
        by_cases c27 : 0 ≤ x36_2
        ·rw [if_pos c27] at H
         have c27b0 : decide (0 ≤ x36_2) = true := decide_eq_true c27
         clear c27
         by_cases c28 : x36_2 < (t174.length : Int)
         ·rw [if_pos c28] at H
          have c28b0 : decide (x36_2 < (t174.length : Int)) = true := decide_eq_true c28
          clear c28
          by_cases c29 : x36_2 < (l0_1.length : Int)
          ·rw [if_pos c29] at H
           have c29b0 : decide (x36_2 < (l0_1.length : Int)) = true := decide_eq_true c29
           clear c29
           by_cases c30 : (!(((rd_T75 l0_1 x36_2).f0) == ((rd_T75 t174 x36_2).f0)) || (!(((rd_T75 l0_1 x36_2).f1) == ((rd_T75 t174 x36_2).f1)) || (!(((rd_T75 l0_1 x36_2).f2) == ((rd_T75 t174 x36_2).f2))))) = true
           ·rw [if_pos c30] at H
            have c30b0 : (!(((rd_T75 l0_1 x36_2).f0) == ((rd_T75 t174 x36_2).f0)) || (!(((rd_T75 l0_1 x36_2).f1) == ((rd_T75 t174 x36_2).f1)) || (!(((rd_T75 l0_1 x36_2).f2) == ((rd_T75 t174 x36_2).f2))))) = true := c30
            clear c30
            obtain rfl := Option.some.inj H
            have p179 : 0 ≤ (x36_2 : Int) := od_
            have q179 : x36_2 < (t174.length : Int) := od_
            obtain ⟨ad179, e179, hx179_0, hx179_1, hx179_2⟩ := at_T75 (Kd.R_reads' HO_34.out).2.2 x36_2 p179 q179
            cases e179
            replace p179 := eq_true p179
            replace q179 := eq_true q179
            go_wp2_with (first | ((with_reducible refine gate_dst (N := 7) rfl ?_); (try (refine gate_guard (by rfl) ?_; dsimp only)); refine boxq_ (N := 7) (cs := #[.int .i64 0, .int .i64 0, .int .i64 0]) (t := 75) ?_; intro gb180 hg w31 hbox hb; replace HO_34 := am_ (Kd.R_below (Kd.R_elderB (rq_ HO_34.out) gb180 (Nat.le_of_eq hg.symm)) hb); replace HO_179001 := am_ (Kd.R_below (Kd.R_elderB (rq_ HO_179001.out) gb180 (Nat.le_of_eq hg.symm)) hb); have BK180 := am_ (hbox); have GW180 := gz_ hg; have GE180 := gz_ hg; replace HB := bs_ hb; have NB168_180 := nl_ BK168 hg; have NB180_168 := nr_ BK168 hg; replace BK168 := bb_ BK168 hb; have NB178_180 := nl_ BK178 hg; have NB180_178 := nr_ BK178 hg; replace BK178 := bb_ BK178 hb; clear hb hbox hg; have hnb32 := NB180_168.out; have hnc32 := NB168_180.out; have hnb33 := NB180_178.out; have hnc33 := NB178_180.out; have hcz34_0 := cq_ BK180.out 0 (.int .i64 0); have hcz34_1 := cq_ BK180.out 1 (.int .i64 0); have hcz34_2 := cq_ BK180.out 2 (.int .i64 0); have hfz34_0 := blk_frozen BK180.out 0; have hfz34_1 := blk_frozen BK180.out 1; have hfz34_2 := blk_frozen BK180.out 2; have hnb35 := NB168_178.out; have hnc35 := NB178_168.out; have hcz36_0 := cq_ BK168.out 0 (.int .i64 a0_0); have hcz36_1 := cq_ BK168.out 1 (.slice A0_1 l0_1.length c0_1); have hcz36_2 := cq_ BK168.out 2 (.int .i64 a0_2); have hfz36_0 := blk_frozen BK168.out 0; have hfz36_1 := blk_frozen BK168.out 1; have hfz36_2 := blk_frozen BK168.out 2; have p181 : 0 ≤ (x36_2 : Int) := od_; have q181 : x36_2 < (l0_1.length : Int) := od_; obtain ⟨ad181, e181, hx181_0, hx181_1, hx181_2⟩ := at_T75 HR0_1.out x36_2 p181 q181; cases e181; have hn181_0 : ad181.block ≠ gb180 := Nat.ne_of_lt (Nat.lt_of_lt_of_le y26_ GW180.out); have hn181_1 : ad181.block ≠ gb180 := Nat.ne_of_lt (Nat.lt_of_lt_of_le y26_ GW180.out); have hn181_2 : ad181.block ≠ gb180 := Nat.ne_of_lt (Nat.lt_of_lt_of_le y26_ GW180.out); replace hx181_0 := (HB.out.cell (World.block_lt_of_cell? w _ hx181_0)).trans hx181_0; replace hx181_1 := (HB.out.cell (World.block_lt_of_cell? w _ hx181_1)).trans hx181_1; replace hx181_2 := (HB.out.cell (World.block_lt_of_cell? w _ hx181_2)).trans hx181_2; replace hx181_0 := (cell_far (p := ⟨gb180, 0, none⟩) y18_ (.int .i64 ((rd_T75 t174 x36_2).f0))).trans hx181_0; replace hx181_1 := (cell_far (p := ⟨gb180, 0, none⟩) y18_ (.int .i64 ((rd_T75 t174 x36_2).f0))).trans hx181_1; replace hx181_2 := (cell_far (p := ⟨gb180, 0, none⟩) y18_ (.int .i64 ((rd_T75 t174 x36_2).f0))).trans hx181_2; replace hx181_0 := (cell_far (p := ⟨gb180, 1, none⟩) y19_ (.int .i64 ((rd_T75 t174 x36_2).f1))).trans hx181_0; replace hx181_1 := (cell_far (p := ⟨gb180, 1, none⟩) y19_ (.int .i64 ((rd_T75 t174 x36_2).f1))).trans hx181_1; replace hx181_2 := (cell_far (p := ⟨gb180, 1, none⟩) y19_ (.int .i64 ((rd_T75 t174 x36_2).f1))).trans hx181_2; replace hx181_0 := (cell_far (p := ⟨gb180, 2, none⟩) y20_ (.int .i64 ((rd_T75 t174 x36_2).f2))).trans hx181_0; replace hx181_1 := (cell_far (p := ⟨gb180, 2, none⟩) y20_ (.int .i64 ((rd_T75 t174 x36_2).f2))).trans hx181_1; replace hx181_2 := (cell_far (p := ⟨gb180, 2, none⟩) y20_ (.int .i64 ((rd_T75 t174 x36_2).f2))).trans hx181_2; (try have hy181_0 := fun (n_ : Nat) => (show (((((w31.drewN n_).setCell ⟨gb180, 0, none⟩ (.int .i64 ((rd_T75 t174 x36_2).f0))).setCell ⟨gb180, 1, none⟩ (.int .i64 ((rd_T75 t174 x36_2).f1))).setCell ⟨gb180, 2, none⟩ (.int .i64 ((rd_T75 t174 x36_2).f2)))).cell? _ = some _ from hx181_0)); (try have hy181_1 := fun (n_ : Nat) => (show (((((w31.drewN n_).setCell ⟨gb180, 0, none⟩ (.int .i64 ((rd_T75 t174 x36_2).f0))).setCell ⟨gb180, 1, none⟩ (.int .i64 ((rd_T75 t174 x36_2).f1))).setCell ⟨gb180, 2, none⟩ (.int .i64 ((rd_T75 t174 x36_2).f2)))).cell? _ = some _ from hx181_1)); (try have hy181_2 := fun (n_ : Nat) => (show (((((w31.drewN n_).setCell ⟨gb180, 0, none⟩ (.int .i64 ((rd_T75 t174 x36_2).f0))).setCell ⟨gb180, 1, none⟩ (.int .i64 ((rd_T75 t174 x36_2).f1))).setCell ⟨gb180, 2, none⟩ (.int .i64 ((rd_T75 t174 x36_2).f2)))).cell? _ = some _ from hx181_2)); clear hn181_0; clear hn181_1; clear hn181_2; replace p181 := eq_true p181; replace q181 := eq_true q181))
            repeat (go_quiet (first | ((with_reducible refine gate_dst (N := 7) rfl ?_); (try (refine gate_guard (by rfl) ?_; dsimp only)); refine boxq_ (N := 7) (cs := #[.int .i64 0, .int .i64 0, .int .i64 0]) (t := 75) ?_; intro gb180 hg w31 hbox hb; replace HO_34 := am_ (Kd.R_below (Kd.R_elderB (rq_ HO_34.out) gb180 (Nat.le_of_eq hg.symm)) hb); replace HO_179001 := am_ (Kd.R_below (Kd.R_elderB (rq_ HO_179001.out) gb180 (Nat.le_of_eq hg.symm)) hb); have BK180 := am_ (hbox); have GW180 := gz_ hg; have GE180 := gz_ hg; replace HB := bs_ hb; have NB168_180 := nl_ BK168 hg; have NB180_168 := nr_ BK168 hg; replace BK168 := bb_ BK168 hb; have NB178_180 := nl_ BK178 hg; have NB180_178 := nr_ BK178 hg; replace BK178 := bb_ BK178 hb; clear hb hbox hg; have hnb32 := NB180_168.out; have hnc32 := NB168_180.out; have hnb33 := NB180_178.out; have hnc33 := NB178_180.out; have hcz34_0 := cq_ BK180.out 0 (.int .i64 0); have hcz34_1 := cq_ BK180.out 1 (.int .i64 0); have hcz34_2 := cq_ BK180.out 2 (.int .i64 0); have hfz34_0 := blk_frozen BK180.out 0; have hfz34_1 := blk_frozen BK180.out 1; have hfz34_2 := blk_frozen BK180.out 2; have hnb35 := NB168_178.out; have hnc35 := NB178_168.out; have hcz36_0 := cq_ BK168.out 0 (.int .i64 a0_0); have hcz36_1 := cq_ BK168.out 1 (.slice A0_1 l0_1.length c0_1); have hcz36_2 := cq_ BK168.out 2 (.int .i64 a0_2); have hfz36_0 := blk_frozen BK168.out 0; have hfz36_1 := blk_frozen BK168.out 1; have hfz36_2 := blk_frozen BK168.out 2; have p181 : 0 ≤ (x36_2 : Int) := od_; have q181 : x36_2 < (l0_1.length : Int) := od_; obtain ⟨ad181, e181, hx181_0, hx181_1, hx181_2⟩ := at_T75 HR0_1.out x36_2 p181 q181; cases e181; have hn181_0 : ad181.block ≠ gb180 := Nat.ne_of_lt (Nat.lt_of_lt_of_le y26_ GW180.out); have hn181_1 : ad181.block ≠ gb180 := Nat.ne_of_lt (Nat.lt_of_lt_of_le y26_ GW180.out); have hn181_2 : ad181.block ≠ gb180 := Nat.ne_of_lt (Nat.lt_of_lt_of_le y26_ GW180.out); replace hx181_0 := (HB.out.cell (World.block_lt_of_cell? w _ hx181_0)).trans hx181_0; replace hx181_1 := (HB.out.cell (World.block_lt_of_cell? w _ hx181_1)).trans hx181_1; replace hx181_2 := (HB.out.cell (World.block_lt_of_cell? w _ hx181_2)).trans hx181_2; replace hx181_0 := (cell_far (p := ⟨gb180, 0, none⟩) y18_ (.int .i64 ((rd_T75 t174 x36_2).f0))).trans hx181_0; replace hx181_1 := (cell_far (p := ⟨gb180, 0, none⟩) y18_ (.int .i64 ((rd_T75 t174 x36_2).f0))).trans hx181_1; replace hx181_2 := (cell_far (p := ⟨gb180, 0, none⟩) y18_ (.int .i64 ((rd_T75 t174 x36_2).f0))).trans hx181_2; replace hx181_0 := (cell_far (p := ⟨gb180, 1, none⟩) y19_ (.int .i64 ((rd_T75 t174 x36_2).f1))).trans hx181_0; replace hx181_1 := (cell_far (p := ⟨gb180, 1, none⟩) y19_ (.int .i64 ((rd_T75 t174 x36_2).f1))).trans hx181_1; replace hx181_2 := (cell_far (p := ⟨gb180, 1, none⟩) y19_ (.int .i64 ((rd_T75 t174 x36_2).f1))).trans hx181_2; replace hx181_0 := (cell_far (p := ⟨gb180, 2, none⟩) y20_ (.int .i64 ((rd_T75 t174 x36_2).f2))).trans hx181_0; replace hx181_1 := (cell_far (p := ⟨gb180, 2, none⟩) y20_ (.int .i64 ((rd_T75 t174 x36_2).f2))).trans hx181_1; replace hx181_2 := (cell_far (p := ⟨gb180, 2, none⟩) y20_ (.int .i64 ((rd_T75 t174 x36_2).f2))).trans hx181_2; (try have hy181_0 := fun (n_ : Nat) => (show (((((w31.drewN n_).setCell ⟨gb180, 0, none⟩ (.int .i64 ((rd_T75 t174 x36_2).f0))).setCell ⟨gb180, 1, none⟩ (.int .i64 ((rd_T75 t174 x36_2).f1))).setCell ⟨gb180, 2, none⟩ (.int .i64 ((rd_T75 t174 x36_2).f2)))).cell? _ = some _ from hx181_0)); (try have hy181_1 := fun (n_ : Nat) => (show (((((w31.drewN n_).setCell ⟨gb180, 0, none⟩ (.int .i64 ((rd_T75 t174 x36_2).f0))).setCell ⟨gb180, 1, none⟩ (.int .i64 ((rd_T75 t174 x36_2).f1))).setCell ⟨gb180, 2, none⟩ (.int .i64 ((rd_T75 t174 x36_2).f2)))).cell? _ = some _ from hx181_1)); (try have hy181_2 := fun (n_ : Nat) => (show (((((w31.drewN n_).setCell ⟨gb180, 0, none⟩ (.int .i64 ((rd_T75 t174 x36_2).f0))).setCell ⟨gb180, 1, none⟩ (.int .i64 ((rd_T75 t174 x36_2).f1))).setCell ⟨gb180, 2, none⟩ (.int .i64 ((rd_T75 t174 x36_2).f2)))).cell? _ = some _ from hx181_2)); clear hn181_0; clear hn181_1; clear hn181_2; replace p181 := eq_true p181; replace q181 := eq_true q181)); try go_wp2_with (first | ((with_reducible refine gate_dst (N := 7) rfl ?_); (try (refine gate_guard (by rfl) ?_; dsimp only)); refine boxq_ (N := 7) (cs := #[.int .i64 0, .int .i64 0, .int .i64 0]) (t := 75) ?_; intro gb180 hg w31 hbox hb; replace HO_34 := am_ (Kd.R_below (Kd.R_elderB (rq_ HO_34.out) gb180 (Nat.le_of_eq hg.symm)) hb); replace HO_179001 := am_ (Kd.R_below (Kd.R_elderB (rq_ HO_179001.out) gb180 (Nat.le_of_eq hg.symm)) hb); have BK180 := am_ (hbox); have GW180 := gz_ hg; have GE180 := gz_ hg; replace HB := bs_ hb; have NB168_180 := nl_ BK168 hg; have NB180_168 := nr_ BK168 hg; replace BK168 := bb_ BK168 hb; have NB178_180 := nl_ BK178 hg; have NB180_178 := nr_ BK178 hg; replace BK178 := bb_ BK178 hb; clear hb hbox hg; have hnb32 := NB180_168.out; have hnc32 := NB168_180.out; have hnb33 := NB180_178.out; have hnc33 := NB178_180.out; have hcz34_0 := cq_ BK180.out 0 (.int .i64 0); have hcz34_1 := cq_ BK180.out 1 (.int .i64 0); have hcz34_2 := cq_ BK180.out 2 (.int .i64 0); have hfz34_0 := blk_frozen BK180.out 0; have hfz34_1 := blk_frozen BK180.out 1; have hfz34_2 := blk_frozen BK180.out 2; have hnb35 := NB168_178.out; have hnc35 := NB178_168.out; have hcz36_0 := cq_ BK168.out 0 (.int .i64 a0_0); have hcz36_1 := cq_ BK168.out 1 (.slice A0_1 l0_1.length c0_1); have hcz36_2 := cq_ BK168.out 2 (.int .i64 a0_2); have hfz36_0 := blk_frozen BK168.out 0; have hfz36_1 := blk_frozen BK168.out 1; have hfz36_2 := blk_frozen BK168.out 2; have p181 : 0 ≤ (x36_2 : Int) := od_; have q181 : x36_2 < (l0_1.length : Int) := od_; obtain ⟨ad181, e181, hx181_0, hx181_1, hx181_2⟩ := at_T75 HR0_1.out x36_2 p181 q181; cases e181; have hn181_0 : ad181.block ≠ gb180 := Nat.ne_of_lt (Nat.lt_of_lt_of_le y26_ GW180.out); have hn181_1 : ad181.block ≠ gb180 := Nat.ne_of_lt (Nat.lt_of_lt_of_le y26_ GW180.out); have hn181_2 : ad181.block ≠ gb180 := Nat.ne_of_lt (Nat.lt_of_lt_of_le y26_ GW180.out); replace hx181_0 := (HB.out.cell (World.block_lt_of_cell? w _ hx181_0)).trans hx181_0; replace hx181_1 := (HB.out.cell (World.block_lt_of_cell? w _ hx181_1)).trans hx181_1; replace hx181_2 := (HB.out.cell (World.block_lt_of_cell? w _ hx181_2)).trans hx181_2; replace hx181_0 := (cell_far (p := ⟨gb180, 0, none⟩) y18_ (.int .i64 ((rd_T75 t174 x36_2).f0))).trans hx181_0; replace hx181_1 := (cell_far (p := ⟨gb180, 0, none⟩) y18_ (.int .i64 ((rd_T75 t174 x36_2).f0))).trans hx181_1; replace hx181_2 := (cell_far (p := ⟨gb180, 0, none⟩) y18_ (.int .i64 ((rd_T75 t174 x36_2).f0))).trans hx181_2; replace hx181_0 := (cell_far (p := ⟨gb180, 1, none⟩) y19_ (.int .i64 ((rd_T75 t174 x36_2).f1))).trans hx181_0; replace hx181_1 := (cell_far (p := ⟨gb180, 1, none⟩) y19_ (.int .i64 ((rd_T75 t174 x36_2).f1))).trans hx181_1; replace hx181_2 := (cell_far (p := ⟨gb180, 1, none⟩) y19_ (.int .i64 ((rd_T75 t174 x36_2).f1))).trans hx181_2; replace hx181_0 := (cell_far (p := ⟨gb180, 2, none⟩) y20_ (.int .i64 ((rd_T75 t174 x36_2).f2))).trans hx181_0; replace hx181_1 := (cell_far (p := ⟨gb180, 2, none⟩) y20_ (.int .i64 ((rd_T75 t174 x36_2).f2))).trans hx181_1; replace hx181_2 := (cell_far (p := ⟨gb180, 2, none⟩) y20_ (.int .i64 ((rd_T75 t174 x36_2).f2))).trans hx181_2; (try have hy181_0 := fun (n_ : Nat) => (show (((((w31.drewN n_).setCell ⟨gb180, 0, none⟩ (.int .i64 ((rd_T75 t174 x36_2).f0))).setCell ⟨gb180, 1, none⟩ (.int .i64 ((rd_T75 t174 x36_2).f1))).setCell ⟨gb180, 2, none⟩ (.int .i64 ((rd_T75 t174 x36_2).f2)))).cell? _ = some _ from hx181_0)); (try have hy181_1 := fun (n_ : Nat) => (show (((((w31.drewN n_).setCell ⟨gb180, 0, none⟩ (.int .i64 ((rd_T75 t174 x36_2).f0))).setCell ⟨gb180, 1, none⟩ (.int .i64 ((rd_T75 t174 x36_2).f1))).setCell ⟨gb180, 2, none⟩ (.int .i64 ((rd_T75 t174 x36_2).f2)))).cell? _ = some _ from hx181_1)); (try have hy181_2 := fun (n_ : Nat) => (show (((((w31.drewN n_).setCell ⟨gb180, 0, none⟩ (.int .i64 ((rd_T75 t174 x36_2).f0))).setCell ⟨gb180, 1, none⟩ (.int .i64 ((rd_T75 t174 x36_2).f1))).setCell ⟨gb180, 2, none⟩ (.int .i64 ((rd_T75 t174 x36_2).f2)))).cell? _ = some _ from hx181_2)); clear hn181_0; clear hn181_1; clear hn181_2; replace p181 := eq_true p181; replace q181 := eq_true q181)))
            go_ret
            exact ⟨by first | rfl | (simp [errW_none, errW_some] <;> rfl) | (simp [*, errW_none, errW_some] <;> rfl), bq_⟩
           ·rw [if_neg c30] at H
            have c30b0 : (!(((rd_T75 l0_1 x36_2).f0) == ((rd_T75 t174 x36_2).f0)) || (!(((rd_T75 l0_1 x36_2).f1) == ((rd_T75 t174 x36_2).f1)) || (!(((rd_T75 l0_1 x36_2).f2) == ((rd_T75 t174 x36_2).f2))))) = false := by simpa using c30
            clear c30
            have H' := am_ H
            clear H
            have p179 : 0 ≤ (x36_2 : Int) := od_
            have q179 : x36_2 < (t174.length : Int) := od_
            obtain ⟨ad179, e179, hx179_0, hx179_1, hx179_2⟩ := at_T75 (Kd.R_reads' HO_34.out).2.2 x36_2 p179 q179
            cases e179
            replace p179 := eq_true p179
            replace q179 := eq_true q179
            go_wp2_with (first | ((with_reducible refine gate_dst (N := 7) rfl ?_); (try (refine gate_guard (by rfl) ?_; dsimp only)); refine boxq_ (N := 7) (cs := #[.int .i64 0, .int .i64 0, .int .i64 0]) (t := 75) ?_; intro gb180 hg w37 hbox hb; replace HO_34 := am_ (Kd.R_below (Kd.R_elderB (rq_ HO_34.out) gb180 (Nat.le_of_eq hg.symm)) hb); replace HO_179001 := am_ (Kd.R_below (Kd.R_elderB (rq_ HO_179001.out) gb180 (Nat.le_of_eq hg.symm)) hb); have BK180 := am_ (hbox); have GW180 := gz_ hg; have GE180 := gz_ hg; replace HB := bs_ hb; have NB168_180 := nl_ BK168 hg; have NB180_168 := nr_ BK168 hg; replace BK168 := bb_ BK168 hb; have NB178_180 := nl_ BK178 hg; have NB180_178 := nr_ BK178 hg; replace BK178 := bb_ BK178 hb; clear hb hbox hg; have hnb38 := NB180_168.out; have hnc38 := NB168_180.out; have hnb39 := NB180_178.out; have hnc39 := NB178_180.out; have hcz40_0 := cq_ BK180.out 0 (.int .i64 0); have hcz40_1 := cq_ BK180.out 1 (.int .i64 0); have hcz40_2 := cq_ BK180.out 2 (.int .i64 0); have hfz40_0 := blk_frozen BK180.out 0; have hfz40_1 := blk_frozen BK180.out 1; have hfz40_2 := blk_frozen BK180.out 2; have hnb41 := NB168_178.out; have hnc41 := NB178_168.out; have hcz42_0 := cq_ BK168.out 0 (.int .i64 a0_0); have hcz42_1 := cq_ BK168.out 1 (.slice A0_1 l0_1.length c0_1); have hcz42_2 := cq_ BK168.out 2 (.int .i64 a0_2); have hfz42_0 := blk_frozen BK168.out 0; have hfz42_1 := blk_frozen BK168.out 1; have hfz42_2 := blk_frozen BK168.out 2; have p181 : 0 ≤ (x36_2 : Int) := od_; have q181 : x36_2 < (l0_1.length : Int) := od_; obtain ⟨ad181, e181, hx181_0, hx181_1, hx181_2⟩ := at_T75 HR0_1.out x36_2 p181 q181; cases e181; have hn181_0 : ad181.block ≠ gb180 := Nat.ne_of_lt (Nat.lt_of_lt_of_le y26_ GW180.out); have hn181_1 : ad181.block ≠ gb180 := Nat.ne_of_lt (Nat.lt_of_lt_of_le y26_ GW180.out); have hn181_2 : ad181.block ≠ gb180 := Nat.ne_of_lt (Nat.lt_of_lt_of_le y26_ GW180.out); replace hx181_0 := (HB.out.cell (World.block_lt_of_cell? w _ hx181_0)).trans hx181_0; replace hx181_1 := (HB.out.cell (World.block_lt_of_cell? w _ hx181_1)).trans hx181_1; replace hx181_2 := (HB.out.cell (World.block_lt_of_cell? w _ hx181_2)).trans hx181_2; replace hx181_0 := (cell_far (p := ⟨gb180, 0, none⟩) y18_ (.int .i64 ((rd_T75 t174 x36_2).f0))).trans hx181_0; replace hx181_1 := (cell_far (p := ⟨gb180, 0, none⟩) y18_ (.int .i64 ((rd_T75 t174 x36_2).f0))).trans hx181_1; replace hx181_2 := (cell_far (p := ⟨gb180, 0, none⟩) y18_ (.int .i64 ((rd_T75 t174 x36_2).f0))).trans hx181_2; replace hx181_0 := (cell_far (p := ⟨gb180, 1, none⟩) y19_ (.int .i64 ((rd_T75 t174 x36_2).f1))).trans hx181_0; replace hx181_1 := (cell_far (p := ⟨gb180, 1, none⟩) y19_ (.int .i64 ((rd_T75 t174 x36_2).f1))).trans hx181_1; replace hx181_2 := (cell_far (p := ⟨gb180, 1, none⟩) y19_ (.int .i64 ((rd_T75 t174 x36_2).f1))).trans hx181_2; replace hx181_0 := (cell_far (p := ⟨gb180, 2, none⟩) y20_ (.int .i64 ((rd_T75 t174 x36_2).f2))).trans hx181_0; replace hx181_1 := (cell_far (p := ⟨gb180, 2, none⟩) y20_ (.int .i64 ((rd_T75 t174 x36_2).f2))).trans hx181_1; replace hx181_2 := (cell_far (p := ⟨gb180, 2, none⟩) y20_ (.int .i64 ((rd_T75 t174 x36_2).f2))).trans hx181_2; (try have hy181_0 := fun (n_ : Nat) => (show (((((w37.drewN n_).setCell ⟨gb180, 0, none⟩ (.int .i64 ((rd_T75 t174 x36_2).f0))).setCell ⟨gb180, 1, none⟩ (.int .i64 ((rd_T75 t174 x36_2).f1))).setCell ⟨gb180, 2, none⟩ (.int .i64 ((rd_T75 t174 x36_2).f2)))).cell? _ = some _ from hx181_0)); (try have hy181_1 := fun (n_ : Nat) => (show (((((w37.drewN n_).setCell ⟨gb180, 0, none⟩ (.int .i64 ((rd_T75 t174 x36_2).f0))).setCell ⟨gb180, 1, none⟩ (.int .i64 ((rd_T75 t174 x36_2).f1))).setCell ⟨gb180, 2, none⟩ (.int .i64 ((rd_T75 t174 x36_2).f2)))).cell? _ = some _ from hx181_1)); (try have hy181_2 := fun (n_ : Nat) => (show (((((w37.drewN n_).setCell ⟨gb180, 0, none⟩ (.int .i64 ((rd_T75 t174 x36_2).f0))).setCell ⟨gb180, 1, none⟩ (.int .i64 ((rd_T75 t174 x36_2).f1))).setCell ⟨gb180, 2, none⟩ (.int .i64 ((rd_T75 t174 x36_2).f2)))).cell? _ = some _ from hx181_2)); clear hn181_0; clear hn181_1; clear hn181_2; replace p181 := eq_true p181; replace q181 := eq_true q181))
            repeat (go_quiet (first | ((with_reducible refine gate_dst (N := 7) rfl ?_); (try (refine gate_guard (by rfl) ?_; dsimp only)); refine boxq_ (N := 7) (cs := #[.int .i64 0, .int .i64 0, .int .i64 0]) (t := 75) ?_; intro gb180 hg w37 hbox hb; replace HO_34 := am_ (Kd.R_below (Kd.R_elderB (rq_ HO_34.out) gb180 (Nat.le_of_eq hg.symm)) hb); replace HO_179001 := am_ (Kd.R_below (Kd.R_elderB (rq_ HO_179001.out) gb180 (Nat.le_of_eq hg.symm)) hb); have BK180 := am_ (hbox); have GW180 := gz_ hg; have GE180 := gz_ hg; replace HB := bs_ hb; have NB168_180 := nl_ BK168 hg; have NB180_168 := nr_ BK168 hg; replace BK168 := bb_ BK168 hb; have NB178_180 := nl_ BK178 hg; have NB180_178 := nr_ BK178 hg; replace BK178 := bb_ BK178 hb; clear hb hbox hg; have hnb38 := NB180_168.out; have hnc38 := NB168_180.out; have hnb39 := NB180_178.out; have hnc39 := NB178_180.out; have hcz40_0 := cq_ BK180.out 0 (.int .i64 0); have hcz40_1 := cq_ BK180.out 1 (.int .i64 0); have hcz40_2 := cq_ BK180.out 2 (.int .i64 0); have hfz40_0 := blk_frozen BK180.out 0; have hfz40_1 := blk_frozen BK180.out 1; have hfz40_2 := blk_frozen BK180.out 2; have hnb41 := NB168_178.out; have hnc41 := NB178_168.out; have hcz42_0 := cq_ BK168.out 0 (.int .i64 a0_0); have hcz42_1 := cq_ BK168.out 1 (.slice A0_1 l0_1.length c0_1); have hcz42_2 := cq_ BK168.out 2 (.int .i64 a0_2); have hfz42_0 := blk_frozen BK168.out 0; have hfz42_1 := blk_frozen BK168.out 1; have hfz42_2 := blk_frozen BK168.out 2; have p181 : 0 ≤ (x36_2 : Int) := od_; have q181 : x36_2 < (l0_1.length : Int) := od_; obtain ⟨ad181, e181, hx181_0, hx181_1, hx181_2⟩ := at_T75 HR0_1.out x36_2 p181 q181; cases e181; have hn181_0 : ad181.block ≠ gb180 := Nat.ne_of_lt (Nat.lt_of_lt_of_le y26_ GW180.out); have hn181_1 : ad181.block ≠ gb180 := Nat.ne_of_lt (Nat.lt_of_lt_of_le y26_ GW180.out); have hn181_2 : ad181.block ≠ gb180 := Nat.ne_of_lt (Nat.lt_of_lt_of_le y26_ GW180.out); replace hx181_0 := (HB.out.cell (World.block_lt_of_cell? w _ hx181_0)).trans hx181_0; replace hx181_1 := (HB.out.cell (World.block_lt_of_cell? w _ hx181_1)).trans hx181_1; replace hx181_2 := (HB.out.cell (World.block_lt_of_cell? w _ hx181_2)).trans hx181_2; replace hx181_0 := (cell_far (p := ⟨gb180, 0, none⟩) y18_ (.int .i64 ((rd_T75 t174 x36_2).f0))).trans hx181_0; replace hx181_1 := (cell_far (p := ⟨gb180, 0, none⟩) y18_ (.int .i64 ((rd_T75 t174 x36_2).f0))).trans hx181_1; replace hx181_2 := (cell_far (p := ⟨gb180, 0, none⟩) y18_ (.int .i64 ((rd_T75 t174 x36_2).f0))).trans hx181_2; replace hx181_0 := (cell_far (p := ⟨gb180, 1, none⟩) y19_ (.int .i64 ((rd_T75 t174 x36_2).f1))).trans hx181_0; replace hx181_1 := (cell_far (p := ⟨gb180, 1, none⟩) y19_ (.int .i64 ((rd_T75 t174 x36_2).f1))).trans hx181_1; replace hx181_2 := (cell_far (p := ⟨gb180, 1, none⟩) y19_ (.int .i64 ((rd_T75 t174 x36_2).f1))).trans hx181_2; replace hx181_0 := (cell_far (p := ⟨gb180, 2, none⟩) y20_ (.int .i64 ((rd_T75 t174 x36_2).f2))).trans hx181_0; replace hx181_1 := (cell_far (p := ⟨gb180, 2, none⟩) y20_ (.int .i64 ((rd_T75 t174 x36_2).f2))).trans hx181_1; replace hx181_2 := (cell_far (p := ⟨gb180, 2, none⟩) y20_ (.int .i64 ((rd_T75 t174 x36_2).f2))).trans hx181_2; (try have hy181_0 := fun (n_ : Nat) => (show (((((w37.drewN n_).setCell ⟨gb180, 0, none⟩ (.int .i64 ((rd_T75 t174 x36_2).f0))).setCell ⟨gb180, 1, none⟩ (.int .i64 ((rd_T75 t174 x36_2).f1))).setCell ⟨gb180, 2, none⟩ (.int .i64 ((rd_T75 t174 x36_2).f2)))).cell? _ = some _ from hx181_0)); (try have hy181_1 := fun (n_ : Nat) => (show (((((w37.drewN n_).setCell ⟨gb180, 0, none⟩ (.int .i64 ((rd_T75 t174 x36_2).f0))).setCell ⟨gb180, 1, none⟩ (.int .i64 ((rd_T75 t174 x36_2).f1))).setCell ⟨gb180, 2, none⟩ (.int .i64 ((rd_T75 t174 x36_2).f2)))).cell? _ = some _ from hx181_1)); (try have hy181_2 := fun (n_ : Nat) => (show (((((w37.drewN n_).setCell ⟨gb180, 0, none⟩ (.int .i64 ((rd_T75 t174 x36_2).f0))).setCell ⟨gb180, 1, none⟩ (.int .i64 ((rd_T75 t174 x36_2).f1))).setCell ⟨gb180, 2, none⟩ (.int .i64 ((rd_T75 t174 x36_2).f2)))).cell? _ = some _ from hx181_2)); clear hn181_0; clear hn181_1; clear hn181_2; replace p181 := eq_true p181; replace q181 := eq_true q181)); try go_wp2_with (first | ((with_reducible refine gate_dst (N := 7) rfl ?_); (try (refine gate_guard (by rfl) ?_; dsimp only)); refine boxq_ (N := 7) (cs := #[.int .i64 0, .int .i64 0, .int .i64 0]) (t := 75) ?_; intro gb180 hg w37 hbox hb; replace HO_34 := am_ (Kd.R_below (Kd.R_elderB (rq_ HO_34.out) gb180 (Nat.le_of_eq hg.symm)) hb); replace HO_179001 := am_ (Kd.R_below (Kd.R_elderB (rq_ HO_179001.out) gb180 (Nat.le_of_eq hg.symm)) hb); have BK180 := am_ (hbox); have GW180 := gz_ hg; have GE180 := gz_ hg; replace HB := bs_ hb; have NB168_180 := nl_ BK168 hg; have NB180_168 := nr_ BK168 hg; replace BK168 := bb_ BK168 hb; have NB178_180 := nl_ BK178 hg; have NB180_178 := nr_ BK178 hg; replace BK178 := bb_ BK178 hb; clear hb hbox hg; have hnb38 := NB180_168.out; have hnc38 := NB168_180.out; have hnb39 := NB180_178.out; have hnc39 := NB178_180.out; have hcz40_0 := cq_ BK180.out 0 (.int .i64 0); have hcz40_1 := cq_ BK180.out 1 (.int .i64 0); have hcz40_2 := cq_ BK180.out 2 (.int .i64 0); have hfz40_0 := blk_frozen BK180.out 0; have hfz40_1 := blk_frozen BK180.out 1; have hfz40_2 := blk_frozen BK180.out 2; have hnb41 := NB168_178.out; have hnc41 := NB178_168.out; have hcz42_0 := cq_ BK168.out 0 (.int .i64 a0_0); have hcz42_1 := cq_ BK168.out 1 (.slice A0_1 l0_1.length c0_1); have hcz42_2 := cq_ BK168.out 2 (.int .i64 a0_2); have hfz42_0 := blk_frozen BK168.out 0; have hfz42_1 := blk_frozen BK168.out 1; have hfz42_2 := blk_frozen BK168.out 2; have p181 : 0 ≤ (x36_2 : Int) := od_; have q181 : x36_2 < (l0_1.length : Int) := od_; obtain ⟨ad181, e181, hx181_0, hx181_1, hx181_2⟩ := at_T75 HR0_1.out x36_2 p181 q181; cases e181; have hn181_0 : ad181.block ≠ gb180 := Nat.ne_of_lt (Nat.lt_of_lt_of_le y26_ GW180.out); have hn181_1 : ad181.block ≠ gb180 := Nat.ne_of_lt (Nat.lt_of_lt_of_le y26_ GW180.out); have hn181_2 : ad181.block ≠ gb180 := Nat.ne_of_lt (Nat.lt_of_lt_of_le y26_ GW180.out); replace hx181_0 := (HB.out.cell (World.block_lt_of_cell? w _ hx181_0)).trans hx181_0; replace hx181_1 := (HB.out.cell (World.block_lt_of_cell? w _ hx181_1)).trans hx181_1; replace hx181_2 := (HB.out.cell (World.block_lt_of_cell? w _ hx181_2)).trans hx181_2; replace hx181_0 := (cell_far (p := ⟨gb180, 0, none⟩) y18_ (.int .i64 ((rd_T75 t174 x36_2).f0))).trans hx181_0; replace hx181_1 := (cell_far (p := ⟨gb180, 0, none⟩) y18_ (.int .i64 ((rd_T75 t174 x36_2).f0))).trans hx181_1; replace hx181_2 := (cell_far (p := ⟨gb180, 0, none⟩) y18_ (.int .i64 ((rd_T75 t174 x36_2).f0))).trans hx181_2; replace hx181_0 := (cell_far (p := ⟨gb180, 1, none⟩) y19_ (.int .i64 ((rd_T75 t174 x36_2).f1))).trans hx181_0; replace hx181_1 := (cell_far (p := ⟨gb180, 1, none⟩) y19_ (.int .i64 ((rd_T75 t174 x36_2).f1))).trans hx181_1; replace hx181_2 := (cell_far (p := ⟨gb180, 1, none⟩) y19_ (.int .i64 ((rd_T75 t174 x36_2).f1))).trans hx181_2; replace hx181_0 := (cell_far (p := ⟨gb180, 2, none⟩) y20_ (.int .i64 ((rd_T75 t174 x36_2).f2))).trans hx181_0; replace hx181_1 := (cell_far (p := ⟨gb180, 2, none⟩) y20_ (.int .i64 ((rd_T75 t174 x36_2).f2))).trans hx181_1; replace hx181_2 := (cell_far (p := ⟨gb180, 2, none⟩) y20_ (.int .i64 ((rd_T75 t174 x36_2).f2))).trans hx181_2; (try have hy181_0 := fun (n_ : Nat) => (show (((((w37.drewN n_).setCell ⟨gb180, 0, none⟩ (.int .i64 ((rd_T75 t174 x36_2).f0))).setCell ⟨gb180, 1, none⟩ (.int .i64 ((rd_T75 t174 x36_2).f1))).setCell ⟨gb180, 2, none⟩ (.int .i64 ((rd_T75 t174 x36_2).f2)))).cell? _ = some _ from hx181_0)); (try have hy181_1 := fun (n_ : Nat) => (show (((((w37.drewN n_).setCell ⟨gb180, 0, none⟩ (.int .i64 ((rd_T75 t174 x36_2).f0))).setCell ⟨gb180, 1, none⟩ (.int .i64 ((rd_T75 t174 x36_2).f1))).setCell ⟨gb180, 2, none⟩ (.int .i64 ((rd_T75 t174 x36_2).f2)))).cell? _ = some _ from hx181_1)); (try have hy181_2 := fun (n_ : Nat) => (show (((((w37.drewN n_).setCell ⟨gb180, 0, none⟩ (.int .i64 ((rd_T75 t174 x36_2).f0))).setCell ⟨gb180, 1, none⟩ (.int .i64 ((rd_T75 t174 x36_2).f1))).setCell ⟨gb180, 2, none⟩ (.int .i64 ((rd_T75 t174 x36_2).f2)))).cell? _ = some _ from hx181_2)); clear hn181_0; clear hn181_1; clear hn181_2; replace p181 := eq_true p181; replace q181 := eq_true q181)))
            go_roundg k2
            case measure => have := HJ4.out; have := HK2.out; omega
            case rel => exact ⟨(wrap64 (x36_2 + 1)), y30_, H', ⟨by have := HJ4.out; have := HK2.out; omega⟩, ⟨rq_ (Kd.R_mono (Kd.R_far (p := ⟨gb180, 2, none⟩) (Kd.R_far (p := ⟨gb180, 1, none⟩) (Kd.R_far (p := ⟨gb180, 0, none⟩) (Kd.R_mono HO_34.out (fun k_ hk => (⟨hk, hk.2⟩ : _ ∧ k_ ≠ gb180))) (fun _ hk => hk.2) (.int .i64 ((rd_T75 t174 x36_2).f0))) (fun _ hk => hk.2) (.int .i64 ((rd_T75 t174 x36_2).f1))) (fun _ hk => hk.2) (.int .i64 ((rd_T75 t174 x36_2).f2))) (fun _ hk => trivial))⟩, ⟨rq_ (Kd.R_mono (Kd.R_far (p := ⟨gb180, 2, none⟩) (Kd.R_far (p := ⟨gb180, 1, none⟩) (Kd.R_far (p := ⟨gb180, 0, none⟩) (Kd.R_mono HO_179001.out (fun k_ hk => (⟨hk, hk.2⟩ : _ ∧ k_ ≠ gb180))) (fun _ hk => hk.2) (.int .i64 ((rd_T75 t174 x36_2).f0))) (fun _ hk => hk.2) (.int .i64 ((rd_T75 t174 x36_2).f1))) (fun _ hk => hk.2) (.int .i64 ((rd_T75 t174 x36_2).f2))) (fun _ hk => trivial))⟩, ⟨by (with_reducible repeat (first | refine blk_drewN ?_ _ | refine blk_drew ?_ | refine blk_alloc ?_ _)); refine blk_far ?_ NB168_180.out _; (with_reducible repeat (first | refine blk_drewN ?_ _ | refine blk_drew ?_ | refine blk_alloc ?_ _)); refine blk_far ?_ NB168_180.out _; (with_reducible repeat (first | refine blk_drewN ?_ _ | refine blk_drew ?_ | refine blk_alloc ?_ _)); refine blk_far ?_ NB168_180.out _; (with_reducible repeat (first | refine blk_drewN ?_ _ | refine blk_drew ?_ | refine blk_alloc ?_ _)); exact BK168.out⟩, ⟨by (with_reducible repeat (first | refine blk_drewN ?_ _ | refine blk_drew ?_ | refine blk_alloc ?_ _)); refine blk_far ?_ NB178_180.out _; (with_reducible repeat (first | refine blk_drewN ?_ _ | refine blk_drew ?_ | refine blk_alloc ?_ _)); refine blk_far ?_ NB178_180.out _; (with_reducible repeat (first | refine blk_drewN ?_ _ | refine blk_drew ?_ | refine blk_alloc ?_ _)); refine blk_far ?_ NB178_180.out _; (with_reducible repeat (first | refine blk_drewN ?_ _ | refine blk_drew ?_ | refine blk_alloc ?_ _)); exact BK178.out⟩, ⟨bq_⟩⟩
          ·rw [if_neg c29] at H
           exact absurd H (by simp)
         ·rw [if_neg c28] at H
          exact absurd H (by simp)
        ·rw [if_neg c27] at H
         exact absurd H (by simp)
       ·rw [if_neg c26] at H
        have c26b0 : decide (x36_2 < (t174.length : Int)) = false := decide_eq_false c26
        clear c26
        obtain rfl := Option.some.inj H
        go_wp2
        repeat (go_quiet (fail); try go_wp2)
        go_ret
        exact ⟨by first | rfl | (simp [errW_none, errW_some] <;> rfl) | (simp [*, errW_none, errW_some] <;> rfl), bq_⟩
 ·replace c3 := Bool.eq_false_iff.mpr c3
  subst c3
  have H1 : (some false) = some r := by rw [if_neg (show ¬ (false = true) by decide)] at H; exact H
  clear H
  have H := H1
  clear H1
  obtain rfl := Option.some.inj H
  go_enter Try.func48, Try.ntmps48
  go_wp2_with (first | ((with_reducible refine gate_dst (N := 1) rfl ?_); (try (refine gate_guard (by rfl) ?_; dsimp only)); refine boxq_ (N := 1) (cs := #[.int .i64 a0_0, .slice A0_1 l0_1.length c0_1, .int .i64 a0_2]) (t := 30) ?_; intro gb168 hg w43 hbox hb; have BK168 := am_ (hbox); have GW168 := gz_ hg; have GE168 := gz_ hg; replace HB := bs_ hb; clear hb hbox hg; have hcz44_0 := cq_ BK168.out 0 (.int .i64 a0_0); have hcz44_1 := cq_ BK168.out 1 (.slice A0_1 l0_1.length c0_1); have hcz44_2 := cq_ BK168.out 2 (.int .i64 a0_2); have hfz44_0 := blk_frozen BK168.out 0; have hfz44_1 := blk_frozen BK168.out 1; have hfz44_2 := blk_frozen BK168.out 2) | (go_at_call 60; (with_reducible refine (spec_l7Table.calls k a0_0 _ _ l0_1 a0_2 t169 false _ ?side1 ?side2 A2.out).mono ?_); (case side1 => exact cm_ (Kd.C_below HR0_1.out HB.out)); (case side2 => exact HC0_1.out); rintro e w45 ⟨v170, rfl, ho0, hb⟩; have HO171 := am_ (Kd.R_lower ho0 (below_size (bq_))); replace BK168 := bb_ BK168 hb; replace HB := bs_ hb; (try clear hb); (try clear ho0)))
  repeat (go_quiet (first | ((with_reducible refine gate_dst (N := 1) rfl ?_); (try (refine gate_guard (by rfl) ?_; dsimp only)); refine boxq_ (N := 1) (cs := #[.int .i64 a0_0, .slice A0_1 l0_1.length c0_1, .int .i64 a0_2]) (t := 30) ?_; intro gb168 hg w43 hbox hb; have BK168 := am_ (hbox); have GW168 := gz_ hg; have GE168 := gz_ hg; replace HB := bs_ hb; clear hb hbox hg; have hcz44_0 := cq_ BK168.out 0 (.int .i64 a0_0); have hcz44_1 := cq_ BK168.out 1 (.slice A0_1 l0_1.length c0_1); have hcz44_2 := cq_ BK168.out 2 (.int .i64 a0_2); have hfz44_0 := blk_frozen BK168.out 0; have hfz44_1 := blk_frozen BK168.out 1; have hfz44_2 := blk_frozen BK168.out 2) | (go_at_call 60; (with_reducible refine (spec_l7Table.calls k a0_0 _ _ l0_1 a0_2 t169 false _ ?side1 ?side2 A2.out).mono ?_); (case side1 => exact cm_ (Kd.C_below HR0_1.out HB.out)); (case side2 => exact HC0_1.out); rintro e w45 ⟨v170, rfl, ho0, hb⟩; have HO171 := am_ (Kd.R_lower ho0 (below_size (bq_))); replace BK168 := bb_ BK168 hb; replace HB := bs_ hb; (try clear hb); (try clear ho0))); try go_wp2_with (first | ((with_reducible refine gate_dst (N := 1) rfl ?_); (try (refine gate_guard (by rfl) ?_; dsimp only)); refine boxq_ (N := 1) (cs := #[.int .i64 a0_0, .slice A0_1 l0_1.length c0_1, .int .i64 a0_2]) (t := 30) ?_; intro gb168 hg w43 hbox hb; have BK168 := am_ (hbox); have GW168 := gz_ hg; have GE168 := gz_ hg; replace HB := bs_ hb; clear hb hbox hg; have hcz44_0 := cq_ BK168.out 0 (.int .i64 a0_0); have hcz44_1 := cq_ BK168.out 1 (.slice A0_1 l0_1.length c0_1); have hcz44_2 := cq_ BK168.out 2 (.int .i64 a0_2); have hfz44_0 := blk_frozen BK168.out 0; have hfz44_1 := blk_frozen BK168.out 1; have hfz44_2 := blk_frozen BK168.out 2) | (go_at_call 60; (with_reducible refine (spec_l7Table.calls k a0_0 _ _ l0_1 a0_2 t169 false _ ?side1 ?side2 A2.out).mono ?_); (case side1 => exact cm_ (Kd.C_below HR0_1.out HB.out)); (case side2 => exact HC0_1.out); rintro e w45 ⟨v170, rfl, ho0, hb⟩; have HO171 := am_ (Kd.R_lower ho0 (below_size (bq_))); replace BK168 := bb_ BK168 hb; replace HB := bs_ hb; (try clear hb); (try clear ho0))))
  go_ret
  exact ⟨by first | rfl | (simp [errW_none, errW_some] <;> rfl) | (simp [*, errW_none, errW_some] <;> rfl), bq_⟩
def spec_TableOf.f (k : Nat) (a0_0 : Int) (l0_1 : List (S75)) (a0_2 : Int) : Option (List Bool × Bool) := (spec_GoodDiagram.f k a0_0 l0_1 a0_2).bind fun t183 => (if t183 = true then ((spec_l7Table.f k a0_0 l0_1 a0_2).bind fun bt184 => (some (bt184.1, bt184.2))) else (some (([] : List Bool), false)))
set_option maxHeartbeats 8000000 in
set_option maxRecDepth 100000 in
theorem spec_TableOf.calls (k : Nat) (a0_0 : Int) (A0_1 : Option Addr) (c0_1 : Nat) (l0_1 : List (S75)) (a0_2 : Int) (r1 : List Bool) (r2 : Bool) (w : World) (hr0_1 : Kd.C k75 w A0_1 l0_1.length l0_1) (hc0_1 : l0_1.length ≤ c0_1) (h : spec_TableOf.f k a0_0 l0_1 a0_2 = some (r1, r2)) :
  Calls Try.prog 21 #[.agg #[.int .i64 a0_0, .slice A0_1 l0_1.length c0_1, .int .i64 a0_2]] w fun e w' => ∃ v0_ : Value, e = .returned (.tuple #[v0_, .bool r2]) ∧ Kd.R Kd.bool 4 w' w.heap.size (fun _ => True) v0_ r1 ∧ Below w.heap.size w w' := by
 have hu30 := Try.underlying30
 have HR0_1 := am_ hr0_1
 have HC0_1 := am_ hc0_1
 clear hr0_1 hc0_1
 have HB := am_ (Below.refl w.heap.size w)
 have H : ((spec_GoodDiagram.f k a0_0 l0_1 a0_2).bind fun t183 => (if t183 = true then ((spec_l7Table.f k a0_0 l0_1 a0_2).bind fun bt184 => (some (bt184.1, bt184.2))) else (some (([] : List Bool), false)))) = some (r1, r2) := h
 clear h
 replace H := Option.bind_eq_some_iff.mp H
 obtain ⟨t183, A20, H⟩ := H
 replace H : (if t183 = true then ((spec_l7Table.f k a0_0 l0_1 a0_2).bind fun bt184 => (some (bt184.1, bt184.2))) else (some (([] : List Bool), false))) = some (r1, r2) := H
 have A2 := am_ A20
 clear A20
 by_cases c3 : t183 = true
 ·subst c3
  have H1 : ((spec_l7Table.f k a0_0 l0_1 a0_2).bind fun bt184 => (some (bt184.1, bt184.2))) = some (r1, r2) := by rw [if_pos rfl] at H; exact H
  clear H
  have H := H1
  clear H1
  replace H := Option.bind_eq_some_iff.mp H
  obtain ⟨⟨t184, t187⟩, A40, H⟩ := H
  replace H : (some (t184, t187)) = some (r1, r2) := H
  have A4 := am_ A40
  clear A40
  simp only [Option.some.injEq, Prod.mk.injEq] at H
  obtain ⟨rfl, rfl⟩ := H
  go_enter Try.func21, Try.ntmps21
  go_wp2_with (first | ((with_reducible refine gate_dst (N := 1) rfl ?_); refine boxq_ (N := 1) (cs := #[.int .i64 a0_0, .slice A0_1 l0_1.length c0_1, .int .i64 a0_2]) (t := 30) ?_; intro gb182 hg w5 hbox hb; have BK182 := am_ (hbox); have GW182 := gz_ hg; have GE182 := gz_ hg; replace HB := bs_ hb; clear hb hbox hg; have hcz6_0 := cq_ BK182.out 0 (.int .i64 a0_0); have hcz6_1 := cq_ BK182.out 1 (.slice A0_1 l0_1.length c0_1); have hcz6_2 := cq_ BK182.out 2 (.int .i64 a0_2); have hfz6_0 := blk_frozen BK182.out 0; have hfz6_1 := blk_frozen BK182.out 1; have hfz6_2 := blk_frozen BK182.out 2) | ((with_reducible refine gl_ 48 rfl ?_); refine goesM_ (some 5) Try.func48 #[.agg #[.int .i64 a0_0, .slice A0_1 l0_1.length c0_1, .int .i64 a0_2]] ?_; (with_reducible refine (spec_GoodDiagram.calls k a0_0 _ _ l0_1 a0_2 true _ ?side1 ?side2 A2.out).mono ?_); (case side1 => exact cm_ (Kd.C_below HR0_1.out HB.out)); (case side2 => exact HC0_1.out); rintro e w7 ⟨rfl, hb⟩; refine ⟨_, rfl, ?_⟩; replace BK182 := bb_ BK182 hb; replace HB := bs_ hb; (try clear hb); have hcz8_0 := cq_ BK182.out 0 (.int .i64 a0_0); have hcz8_1 := cq_ BK182.out 1 (.slice A0_1 l0_1.length c0_1); have hcz8_2 := cq_ BK182.out 2 (.int .i64 a0_2); have hfz8_0 := blk_frozen BK182.out 0; have hfz8_1 := blk_frozen BK182.out 1; have hfz8_2 := blk_frozen BK182.out 2) | ((with_reducible refine gl_ 60 rfl ?_); refine goesM_ (some 8) Try.func60 #[.agg #[.int .i64 a0_0, .slice A0_1 l0_1.length c0_1, .int .i64 a0_2]] ?_; (with_reducible refine (spec_l7Table.calls k a0_0 _ _ l0_1 a0_2 t184 t187 _ ?side1 ?side2 A4.out).mono ?_); (case side1 => exact cm_ (Kd.C_below HR0_1.out HB.out)); (case side2 => exact HC0_1.out); rintro e w9 ⟨v185, rfl, ho0, hb⟩; refine ⟨_, rfl, ?_⟩; have HO186 := am_ (Kd.R_lower ho0 (below_size (bq_))); replace BK182 := bb_ BK182 hb; replace HB := bs_ hb; (try clear hb); (try clear ho0)))
  go_ret2
  exact ⟨_, by first | rfl | (simp [errW_none, errW_some] <;> rfl) | (simp [*, errW_none, errW_some] <;> rfl), rq_ HO186.out, bq_⟩
 ·replace c3 := Bool.eq_false_iff.mpr c3
  subst c3
  have H1 : (some (([] : List Bool), false)) = some (r1, r2) := by rw [if_neg (show ¬ (false = true) by decide)] at H; exact H
  clear H
  have H := H1
  clear H1
  simp only [Option.some.injEq, Prod.mk.injEq] at H
  obtain ⟨rfl, rfl⟩ := H
  go_enter Try.func21, Try.ntmps21
  go_wp2_with (first | ((with_reducible refine gate_dst (N := 1) rfl ?_); refine boxq_ (N := 1) (cs := #[.int .i64 a0_0, .slice A0_1 l0_1.length c0_1, .int .i64 a0_2]) (t := 30) ?_; intro gb182 hg w10 hbox hb; have BK182 := am_ (hbox); have GW182 := gz_ hg; have GE182 := gz_ hg; replace HB := bs_ hb; clear hb hbox hg; have hcz11_0 := cq_ BK182.out 0 (.int .i64 a0_0); have hcz11_1 := cq_ BK182.out 1 (.slice A0_1 l0_1.length c0_1); have hcz11_2 := cq_ BK182.out 2 (.int .i64 a0_2); have hfz11_0 := blk_frozen BK182.out 0; have hfz11_1 := blk_frozen BK182.out 1; have hfz11_2 := blk_frozen BK182.out 2) | ((with_reducible refine gl_ 48 rfl ?_); refine goesM_ (some 5) Try.func48 #[.agg #[.int .i64 a0_0, .slice A0_1 l0_1.length c0_1, .int .i64 a0_2]] ?_; (with_reducible refine (spec_GoodDiagram.calls k a0_0 _ _ l0_1 a0_2 false _ ?side1 ?side2 A2.out).mono ?_); (case side1 => exact cm_ (Kd.C_below HR0_1.out HB.out)); (case side2 => exact HC0_1.out); rintro e w12 ⟨rfl, hb⟩; refine ⟨_, rfl, ?_⟩; replace BK182 := bb_ BK182 hb; replace HB := bs_ hb; (try clear hb)))
  go_ret2
  exact ⟨_, by first | rfl | (simp [errW_none, errW_some] <;> rfl) | (simp [*, errW_none, errW_some] <;> rfl), by first | exact Kd.R_nil _ _ _ _ _ | exact Kd.N_nil _ _ _ _ _ | exact Kd.V_nil _ _ _ _ _ | exact Kd.Q_nil _ _ _ _ _ | exact Kd.S_nil _ _ _ _ _, bq_⟩
mutual
def spec_BothOf.j0 : Nat → List Bool → List Bool → Bool → Int → List (S75) → Int → Option (Int × (List (S75)) × Int × Bool)
 | 0, _, _, _, _, _, _ => none
 | k + 1, x6, x8, x33, x189000, x189001, x189002 => if x33 = true then (some (0, ([] : List (S75)), 0, false)) else (spec_BothOf.l0 k x6 x8 (x6.length : Int) 0 x189000 x189001 x189002)
def spec_BothOf.l0 : Nat → List Bool → List Bool → Int → Int → Int → List (S75) → Int → Option (Int × (List (S75)) × Int × Bool)
 | 0, _, _, _, _, _, _, _ => none
 | k + 1, x6, x8, x36, x37, x189000, x189001, x189002 => if x37 < x36 then (if 0 ≤ x37 then (if x37 < (x6.length : Int) then (if rdOf false x6 x37 = true then (if x37 < (x8.length : Int) then (spec_BothOf.l0 k (x6.set (x37 : Int).toNat (rdOf false x8 x37)) x8 x36 (wrap64 (x37 + 1)) x189000 x189001 x189002) else (none)) else (spec_BothOf.l0 k (x6.set (x37 : Int).toNat false) x8 x36 (wrap64 (x37 + 1)) x189000 x189001 x189002)) else (none)) else (none)) else ((spec_l7Of.f k x189000 x6).bind fun bt203 => (some (bt203.1, bt203.2.1, bt203.2.2, true)))
end
def spec_BothOf.f (k : Nat) (a0_0 : Int) (l0_1 : List (S75)) (a0_2 : Int) (a1_0 : Int) (l1_1 : List (S75)) (a1_2 : Int) : Option (Int × (List (S75)) × Int × Bool) := (spec_TableOf.f k a0_0 l0_1 a0_2).bind fun bt191 => ((spec_TableOf.f k a1_0 l1_1 a1_2).bind fun bt195 => (if bt191.2 = true then (if bt195.2 = true then (spec_BothOf.j0 k bt191.1 bt195.1 ((bt191.1.length : Int) != (bt195.1.length : Int)) a0_0 l0_1 a0_2) else (spec_BothOf.j0 k bt191.1 bt195.1 true a0_0 l0_1 a0_2)) else (spec_BothOf.j0 k bt191.1 bt195.1 true a0_0 l0_1 a0_2)))
set_option maxHeartbeats 8000000 in
set_option maxRecDepth 100000 in
theorem spec_BothOf.calls (k : Nat) (a0_0 : Int) (A0_1 : Option Addr) (c0_1 : Nat) (l0_1 : List (S75)) (a0_2 : Int) (a1_0 : Int) (A1_1 : Option Addr) (c1_1 : Nat) (l1_1 : List (S75)) (a1_2 : Int) (r1 : Int) (r2 : List (S75)) (r3 : Int) (r4 : Bool) (w : World) (hr0_1 : Kd.C k75 w A0_1 l0_1.length l0_1) (hc0_1 : l0_1.length ≤ c0_1) (hr1_1 : Kd.C k75 w A1_1 l1_1.length l1_1) (hc1_1 : l1_1.length ≤ c1_1) (h : spec_BothOf.f k a0_0 l0_1 a0_2 a1_0 l1_1 a1_2 = some (r1, r2, r3, r4)) :
  Calls Try.prog 29 #[.agg #[.int .i64 a0_0, .slice A0_1 l0_1.length c0_1, .int .i64 a0_2], .agg #[.int .i64 a1_0, .slice A1_1 l1_1.length c1_1, .int .i64 a1_2]] w fun e w' => ∃ v1_ : Value, e = .returned (.tuple #[.agg #[.int .i64 r1, v1_, .int .i64 r3], .bool r4]) ∧ Kd.R k75 75 w' w.heap.size (fun _ => True) v1_ r2 ∧ Below w.heap.size w w' := by
 have hu30 := Try.underlying30
 have HR0_1 := am_ hr0_1
 have HC0_1 := am_ hc0_1
 clear hr0_1 hc0_1
 have HR1_1 := am_ hr1_1
 have HC1_1 := am_ hc1_1
 clear hr1_1 hc1_1
 have HB := am_ (Below.refl w.heap.size w)
 have H : ((spec_TableOf.f k a0_0 l0_1 a0_2).bind fun bt191 => ((spec_TableOf.f k a1_0 l1_1 a1_2).bind fun bt195 => (if bt191.2 = true then (if bt195.2 = true then (spec_BothOf.j0 k bt191.1 bt195.1 ((bt191.1.length : Int) != (bt195.1.length : Int)) a0_0 l0_1 a0_2) else (spec_BothOf.j0 k bt191.1 bt195.1 true a0_0 l0_1 a0_2)) else (spec_BothOf.j0 k bt191.1 bt195.1 true a0_0 l0_1 a0_2)))) = some (r1, r2, r3, r4) := h
 clear h
 replace H := Option.bind_eq_some_iff.mp H
 obtain ⟨⟨t191, t194⟩, A30, H⟩ := H
 replace H : ((spec_TableOf.f k a1_0 l1_1 a1_2).bind fun bt195 => (if t194 = true then (if bt195.2 = true then (spec_BothOf.j0 k t191 bt195.1 ((t191.length : Int) != (bt195.1.length : Int)) a0_0 l0_1 a0_2) else (spec_BothOf.j0 k t191 bt195.1 true a0_0 l0_1 a0_2)) else (spec_BothOf.j0 k t191 bt195.1 true a0_0 l0_1 a0_2))) = some (r1, r2, r3, r4) := H
 have A3 := am_ A30
 clear A30
 replace H := Option.bind_eq_some_iff.mp H
 obtain ⟨⟨t195, t198⟩, A40, H⟩ := H
 replace H : (if t194 = true then (if t198 = true then (spec_BothOf.j0 k t191 t195 ((t191.length : Int) != (t195.length : Int)) a0_0 l0_1 a0_2) else (spec_BothOf.j0 k t191 t195 true a0_0 l0_1 a0_2)) else (spec_BothOf.j0 k t191 t195 true a0_0 l0_1 a0_2)) = some (r1, r2, r3, r4) := H
 have A4 := am_ A40
 clear A40
 have HC5 := am_ H
 clear H
 go_enter Try.func29, Try.ntmps29
 go_upto_region 3 with (first | ((with_reducible refine gate_dst (N := 2) rfl ?_); (try (refine gate_guard (by rfl) ?_; dsimp only)); refine boxq_ (N := 2) (cs := #[.int .i64 a0_0, .slice A0_1 l0_1.length c0_1, .int .i64 a0_2]) (t := 30) ?_; intro gb188 hg w6 hbox hb; have BK188 := am_ (hbox); have GW188 := gz_ hg; have GE188 := gz_ hg; replace HB := bs_ hb; clear hb hbox hg) | ((with_reducible refine gate_dst (N := 3) rfl ?_); (try (refine gate_guard (by rfl) ?_; dsimp only)); refine boxq_ (N := 3) (cs := #[.int .i64 a1_0, .slice A1_1 l1_1.length c1_1, .int .i64 a1_2]) (t := 30) ?_; intro gb189 hg w7 hbox hb; have BK189 := am_ (hbox); have GW189 := gz_ hg; have GE189 := gz_ hg; replace HB := bs_ hb; have NB188_189 := nl_ BK188 hg; have NB189_188 := nr_ BK188 hg; replace BK188 := bb_ BK188 hb; clear hb hbox hg) | ((with_reducible refine gate_dst (N := 4) rfl ?_); (try (refine gate_guard (by rfl) ?_; dsimp only)); refine boxq_ (N := 4) (cs := #[.int .i64 0, .slice none 0 0, .int .i64 0]) (t := 30) ?_; intro gb190 hg w8 hbox hb; have BK190 := am_ (hbox); have GW190 := gz_ hg; have GE190 := gz_ hg; replace HB := bs_ hb; have NB188_190 := nl_ BK188 hg; have NB190_188 := nr_ BK188 hg; replace BK188 := bb_ BK188 hb; have NB189_190 := nl_ BK189 hg; have NB190_189 := nr_ BK189 hg; replace BK189 := bb_ BK189 hb; clear hb hbox hg; have hnb9 := NB188_189.out; have hnc9 := NB189_188.out; have hnb10 := NB188_190.out; have hnc10 := NB190_188.out; have hcz11_0 := cq_ BK188.out 0 (.int .i64 a0_0); have hcz11_1 := cq_ BK188.out 1 (.slice A0_1 l0_1.length c0_1); have hcz11_2 := cq_ BK188.out 2 (.int .i64 a0_2); have hfz11_0 := blk_frozen BK188.out 0; have hfz11_1 := blk_frozen BK188.out 1; have hfz11_2 := blk_frozen BK188.out 2) | ((with_reducible refine gl_ 21 rfl ?_); refine goesM_ (some 13) Try.func21 #[.agg #[.int .i64 a0_0, .slice A0_1 l0_1.length c0_1, .int .i64 a0_2]] ?_; (with_reducible refine (spec_TableOf.calls k a0_0 _ _ l0_1 a0_2 t191 t194 _ ?side1 ?side2 A3.out).mono ?_); (case side1 => exact cm_ (Kd.C_below HR0_1.out HB.out)); (case side2 => exact HC0_1.out); rintro e w12 ⟨v192, rfl, ho0, hb⟩; refine ⟨_, rfl, ?_⟩; have HO193 := am_ (Kd.R_lower ho0 (below_size (bq_))); replace BK188 := bb_ BK188 hb; replace BK189 := bb_ BK189 hb; replace BK190 := bb_ BK190 hb; replace HB := bs_ hb; (try clear hb); (try clear ho0); have hnb13 := NB189_190.out; have hnc13 := NB190_189.out; have hcz14_0 := cq_ BK189.out 0 (.int .i64 a1_0); have hcz14_1 := cq_ BK189.out 1 (.slice A1_1 l1_1.length c1_1); have hcz14_2 := cq_ BK189.out 2 (.int .i64 a1_2); have hfz14_0 := blk_frozen BK189.out 0; have hfz14_1 := blk_frozen BK189.out 1; have hfz14_2 := blk_frozen BK189.out 2) | ((with_reducible refine gl_ 21 rfl ?_); refine goesM_ (some 18) Try.func21 #[.agg #[.int .i64 a1_0, .slice A1_1 l1_1.length c1_1, .int .i64 a1_2]] ?_; (with_reducible refine (spec_TableOf.calls k a1_0 _ _ l1_1 a1_2 t195 t198 _ ?side1 ?side2 A4.out).mono ?_); (case side1 => exact cm_ (Kd.C_below HR1_1.out HB.out)); (case side2 => exact HC1_1.out); rintro e w15 ⟨v196, rfl, ho0, hb⟩; refine ⟨_, rfl, ?_⟩; have HO197 := am_ (Kd.R_lower (Kd.R_new' ho0 (Kd.R_lt (rq_ HO193.out))) (below_size (bq_))); replace HO193 := am_ (Kd.R_elder' (rq_ HO193.out) (Kd.R_base ho0) hb); replace BK188 := bb_ BK188 hb; replace BK189 := bb_ BK189 hb; replace BK190 := bb_ BK190 hb; replace HB := bs_ hb; (try clear hb); (try clear ho0)))
 (try simp only [Act.put, List.setIfInBounds_toArray, List.set_cons_zero, List.set_cons_succ])
 go_cut [33] (fun v33 wc => ∃ (kq : Nat) (x33_4 : Bool), v33 = .bool x33_4 ∧ Aside0 (spec_BothOf.j0 kq t191 t195 x33_4 a0_0 l0_1 a0_2 = some (r1, r2, r3, r4)) ∧ Aside0 (kq ≤ k) ∧ Aside0 (Kd.R Kd.bool 4 wc w.heap.size (fun k_ => some k_ ≠ (v196 : Value).ownBlock) v192 t191) ∧ Aside0 (Kd.R Kd.bool 4 wc w.heap.size (fun k_ => some k_ ≠ (v192 : Value).ownBlock) v196 t195) ∧ Aside0 (wc.heap[gb188]? = some (.cells #[.int .i64 a0_0, (.slice A0_1 l0_1.length c0_1), .int .i64 a0_2] 30 (0, 0))) ∧ Aside0 (wc.heap[gb189]? = some (.cells #[.int .i64 a1_0, (.slice A1_1 l1_1.length c1_1), .int .i64 a1_2] 30 (0, 0))) ∧ Aside0 (wc.heap[gb190]? = some (.cells #[.int .i64 0, (.slice none 0 0), .int .i64 0] 30 (0, 0))) ∧ Aside0 (Below w.heap.size w wc))
 case first =>
  have H := HC5.out
  clear HC5
  by_cases c16 : t194 = true
  ·subst c16
   have H1 : (if t198 = true then (spec_BothOf.j0 k t191 t195 ((t191.length : Int) != (t195.length : Int)) a0_0 l0_1 a0_2) else (spec_BothOf.j0 k t191 t195 true a0_0 l0_1 a0_2)) = some (r1, r2, r3, r4) := by rw [if_pos rfl] at H; exact H
   clear H
   have H := H1
   clear H1
   by_cases c17 : t198 = true
   ·subst c17
    have H1 : (spec_BothOf.j0 k t191 t195 ((t191.length : Int) != (t195.length : Int)) a0_0 l0_1 a0_2) = some (r1, r2, r3, r4) := by rw [if_pos rfl] at H; exact H
    clear H
    have H := H1
    clear H1
    have H' := am_ H
    clear H
    obtain ⟨Ao18, co18, eo18⟩ := Kd.R_slice HO193.out
    subst eo18
    obtain ⟨Ao19, co19, eo19⟩ := Kd.R_slice HO197.out
    subst eo19
    go_wp2
    go_meet
    case rel => exact ⟨_, (((t191.length : Int) != (t195.length : Int))), y30_, H', ⟨by first | omega | exact Nat.le_refl _⟩, ⟨rq_ (Kd.R_mono HO193.out (fun _ hk => hk.2))⟩, ⟨rq_ (Kd.R_mono HO197.out (fun _ hk => hk.2))⟩, ⟨bk_ BK188.out⟩, ⟨bk_ BK189.out⟩, ⟨bk_ BK190.out⟩, ⟨bq_⟩⟩
   ·replace c17 := Bool.eq_false_iff.mpr c17
    subst c17
    have H1 : (spec_BothOf.j0 k t191 t195 true a0_0 l0_1 a0_2) = some (r1, r2, r3, r4) := by rw [if_neg (show ¬ (false = true) by decide)] at H; exact H
    clear H
    have H := H1
    clear H1
    have H' := am_ H
    clear H
    go_wp2
    go_meet
    case rel => exact ⟨_, (true), y30_, H', ⟨by first | omega | exact Nat.le_refl _⟩, ⟨rq_ (Kd.R_mono HO193.out (fun _ hk => hk.2))⟩, ⟨rq_ (Kd.R_mono HO197.out (fun _ hk => hk.2))⟩, ⟨bk_ BK188.out⟩, ⟨bk_ BK189.out⟩, ⟨bk_ BK190.out⟩, ⟨bq_⟩⟩
  ·replace c16 := Bool.eq_false_iff.mpr c16
   subst c16
   have H1 : (spec_BothOf.j0 k t191 t195 true a0_0 l0_1 a0_2) = some (r1, r2, r3, r4) := by rw [if_neg (show ¬ (false = true) by decide)] at H; exact H
   clear H
   have H := H1
   clear H1
   have H' := am_ H
   clear H
   go_wp2
   go_meet
   case rel => exact ⟨_, (true), y30_, H', ⟨by first | omega | exact Nat.le_refl _⟩, ⟨rq_ (Kd.R_mono HO193.out (fun _ hk => hk.2))⟩, ⟨rq_ (Kd.R_mono HO197.out (fun _ hk => hk.2))⟩, ⟨bk_ BK188.out⟩, ⟨bk_ BK189.out⟩, ⟨bk_ BK190.out⟩, ⟨bq_⟩⟩
 case rest =>
  clear HC5
  try clear c1
  try clear c2
  try clear p2
  try clear c9
  try clear c10
  try clear c13
  try clear c16
  try clear c17
  try clear hcz11_0
  try clear hcz11_1
  try clear hcz11_2
  try clear hcz14_0
  try clear hcz14_1
  try clear hcz14_2
  try clear hfz11_0
  try clear hfz11_1
  try clear hfz11_2
  try clear hfz14_0
  try clear hfz14_1
  try clear hfz14_2
  obtain ⟨kq, x33_4, rfl, HA, HJ4, HO_6, HO_8, BK188, BK189, BK190, HB⟩ := hcut
  cases kq with
  | zero => exact absurd HA.out (by simp [spec_BothOf.j0])
  | succ kj4 =>
   have H := HA.out
   clear HA
   simp only [spec_BothOf.j0] at H
   by_cases c20 : x33_4 = true
   ·subst c20
    have H1 : (some (0, ([] : List (S75)), 0, false)) = some (r1, r2, r3, r4) := by rw [if_pos rfl] at H; exact H
    clear H
    have H := H1
    clear H1
    simp only [Option.some.injEq, Prod.mk.injEq] at H
    obtain ⟨rfl, rfl, rfl, rfl⟩ := H
    have hnb21 := NB190_188.out
    have hnc21 := NB188_190.out
    have hnb22 := NB190_189.out
    have hnc22 := NB189_190.out
    have hcz23_0 := cq_ BK190.out 0 (.int .i64 0)
    have hcz23_1 := cq_ BK190.out 1 (.slice none 0 0)
    have hcz23_2 := cq_ BK190.out 2 (.int .i64 0)
    have hfz23_0 := blk_frozen BK190.out 0
    have hfz23_1 := blk_frozen BK190.out 1
    have hfz23_2 := blk_frozen BK190.out 2
    go_wp2
    refine bodyPost_ret (results_ct rfl _ _ gb190 30 #[.int .i64 0, .slice none 0 0, .int .i64 0] (0, 0) _ rfl (bu_ BK190.out) Try.underlying30 rfl (by kernel_rfl)) rfl ?_
    exact ⟨_, by first | rfl | (simp [errW_none, errW_some] <;> rfl) | (simp [*, errW_none, errW_some] <;> rfl), by first | exact Kd.R_nil _ _ _ _ _ | exact Kd.N_nil _ _ _ _ _ | exact Kd.V_nil _ _ _ _ _ | exact Kd.Q_nil _ _ _ _ _ | exact Kd.S_nil _ _ _ _ _, bq_⟩
   ·replace c20 := Bool.eq_false_iff.mpr c20
    subst c20
    have H1 : (spec_BothOf.l0 kj4 t191 t195 (t191.length : Int) 0 a0_0 l0_1 a0_2) = some (r1, r2, r3, r4) := by rw [if_neg (show ¬ (false = true) by decide)] at H; exact H
    clear H
    have H := H1
    clear H1
    have H' := am_ H
    clear H
    obtain ⟨Ao24, co24, eo24⟩ := Kd.R_slice HO_6.out
    subst eo24
    go_wp2
    go_loopg [37] kj4 (fun kq v37 w' => ∃ (x6_2 : List Bool) (x37_2 : Int), v37 = .int .i64 x37_2 ∧ Aside0 (spec_BothOf.l0 kq x6_2 t195 (t191.length : Int) x37_2 a0_0 l0_1 a0_2 = some (r1, r2, r3, r4)) ∧ Aside0 (kq ≤ kj4) ∧ Aside0 (Kd.R Kd.bool 4 w' w.heap.size (fun k_ => some k_ ≠ (v196 : Value).ownBlock) (.slice Ao24 t191.length co24) x6_2) ∧ Aside0 (Kd.R Kd.bool 4 w' w.heap.size (fun k_ => some k_ ≠ ((.slice Ao24 t191.length co24) : Value).ownBlock) v196 t195) ∧ Aside0 (w'.heap[gb188]? = some (.cells #[.int .i64 a0_0, (.slice A0_1 l0_1.length c0_1), .int .i64 a0_2] 30 (0, 0))) ∧ Aside0 (w'.heap[gb189]? = some (.cells #[.int .i64 a1_0, (.slice A1_1 l1_1.length c1_1), .int .i64 a1_2] 30 (0, 0))) ∧ Aside0 (w'.heap[gb190]? = some (.cells #[.int .i64 0, (.slice none 0 0), .int .i64 0] 30 (0, 0))) ∧ Aside0 (Below w.heap.size w w'))
    case atStart => exact ⟨(t191), (0), y30_, H', ⟨Nat.le_refl _⟩, ⟨rq_ HO_6.out⟩, ⟨rq_ HO_8.out⟩, ⟨bk_ BK188.out⟩, ⟨bk_ BK189.out⟩, ⟨bk_ BK190.out⟩, ⟨bq_⟩⟩
    case round =>
     clear H'
     try clear c1
     try clear c2
     try clear p2
     try clear c9
     try clear c10
     try clear c13
     try clear c16
     try clear c17
     try clear c20
     try clear c21
     try clear c22
     try clear hcz11_0
     try clear hcz11_1
     try clear hcz11_2
     try clear hcz14_0
     try clear hcz14_1
     try clear hcz14_2
     try clear hcz23_0
     try clear hcz23_1
     try clear hcz23_2
     try clear hfz11_0
     try clear hfz11_1
     try clear hfz11_2
     try clear hfz14_0
     try clear hfz14_1
     try clear hfz14_2
     try clear hfz23_0
     try clear hfz23_1
     try clear hfz23_2
     try clear p2
     obtain ⟨x6_2, x37_2, rfl, HA, HK2, HO_6, HO_8, BK188, BK189, BK190, HB⟩ := hrel
     have hl6_2 := (Kd.R_reads' HO_6.out).1
     rw [hl6_2] at HO_6
     (try simp only [hl6_2])
     (try simp only [hl6_2] at BK188)
     (try simp only [hl6_2] at BK189)
     (try simp only [hl6_2] at BK190)
     (try simp only [hl6_2] at HO_8)
     cases gk with
     | zero => exact absurd HA.out (by simp [spec_BothOf.l0])
     | succ k2 =>
      have H := HA.out
      clear HA
      simp only [spec_BothOf.l0] at H
      by_cases c25 : x37_2 < (t191.length : Int)
      ·rw [if_pos c25] at H
       have c25b0 : decide (x37_2 < (t191.length : Int)) = true := decide_eq_true c25
       (try (have c25hhl6_2 := c25b0; simp only [hl6_2] at c25hhl6_2))
       clear c25
       by_cases c26 : 0 ≤ x37_2
       ·rw [if_pos c26] at H
        have c26b0 : decide (0 ≤ x37_2) = true := decide_eq_true c26
        clear c26
        by_cases c27 : x37_2 < (x6_2.length : Int)
        ·rw [if_pos c27] at H
         have c27b0 : decide (x37_2 < (x6_2.length : Int)) = true := decide_eq_true c27
         (try (have c27hhl6_2 := c27b0; simp only [hl6_2] at c27hhl6_2))
         clear c27
         obtain ⟨bq28, hbq28⟩ : ∃ b_ : Bool, b_ = (rdOf false x6_2 x37_2) := ⟨_, rfl⟩
         replace H : (if bq28 = true then (if x37_2 < (t195.length : Int) then (spec_BothOf.l0 k2 (x6_2.set (x37_2 : Int).toNat (rdOf false t195 x37_2)) t195 (t191.length : Int) (wrap64 (x37_2 + 1)) a0_0 l0_1 a0_2) else (none)) else (spec_BothOf.l0 k2 (x6_2.set (x37_2 : Int).toNat false) t195 (t191.length : Int) (wrap64 (x37_2 + 1)) a0_0 l0_1 a0_2)) = some (r1, r2, r3, r4) := by rw [← hbq28] at H; exact H
         have Nbq28 := am_ hbq28
         clear hbq28
         by_cases c29 : bq28 = true
         ·subst c29
          have H1 : (if x37_2 < (t195.length : Int) then (spec_BothOf.l0 k2 (x6_2.set (x37_2 : Int).toNat (rdOf false t195 x37_2)) t195 (t191.length : Int) (wrap64 (x37_2 + 1)) a0_0 l0_1 a0_2) else (none)) = some (r1, r2, r3, r4) := by rw [if_pos rfl] at H; exact H
          clear H
          have H := H1
          clear H1
          by_cases c30 : x37_2 < (t195.length : Int)
          ·rw [if_pos c30] at H
           have c30b0 : decide (x37_2 < (t195.length : Int)) = true := decide_eq_true c30
           (try (have c30hhl6_2 := c30b0; simp only [hl6_2] at c30hhl6_2))
           clear c30
           obtain ⟨y201, hy201⟩ : ∃ y_ : List Bool, y_ = (x6_2.set (x37_2 : Int).toNat (rdOf false t195 x37_2)) := ⟨_, rfl⟩
           replace H : (spec_BothOf.l0 k2 y201 t195 (t191.length : Int) (wrap64 (x37_2 + 1)) a0_0 l0_1 a0_2) = some (r1, r2, r3, r4) := by first | (rw [hy201]; with_reducible exact H) | (have H2_ := (Option.bind_some _ _).symm.trans H; rw [hy201]; with_reducible exact H2_) | (have H2_ := (Option.bind_some _ _).symm.trans H; with_reducible exact H2_) | with_reducible exact H | (rw [hy201]; exact H) | exact H
           have Ny201 := am_ hy201
           clear hy201
           have H' := am_ H
           clear H
           have p199 : 0 ≤ (x37_2 : Int) := od_
           have q199 : x37_2 < (x6_2.length : Int) := od_
           obtain ⟨ad199, e199, hx199_0⟩ := Kd.at_bool (Kd.R_reads' HO_6.out).2.2 x37_2 p199 q199
           (try rw [← Nbq28.out] at hx199_0)
           cases e199
           replace p199 := eq_true p199
           replace q199 := eq_true q199
           obtain ⟨Ao32, co32, eo32⟩ := Kd.R_slice HO_8.out
           subst eo32
           have p200 : 0 ≤ (x37_2 : Int) := od_
           have q200 : x37_2 < (t195.length : Int) := od_
           obtain ⟨ad200, e200, hx200_0⟩ := Kd.at_bool (Kd.R_reads' HO_8.out).2.2 x37_2 p200 q200
           (try rw [← Nbq28.out] at hx200_0)
           cases e200
           replace p200 := eq_true p200
           replace q200 := eq_true q200
           have p31 : 0 ≤ (x37_2 : Int) := od_
           have q31 : (x37_2 : Int) < ((x6_2.length : Int) : Int) := od_
           obtain ⟨go31, co31, eo31, gb31, gl31, cl31, HG31⟩ := Kd.R_form HO_6.out (by omega)
           (first | cases eo31 | (injection eo31 with ea_ en_ ec_; (first | subst ea_ | (injection ea_ with ea_; subst ea_)); subst ec_; clear en_))
           have GB31 := am_ gb31
           have GG31 := am_ HG31
           clear gb31 gl31 HG31
           (first | simp only [add_plain] at hx199_0 | skip)
           obtain ⟨hx31_0, hf31_0⟩ := Kd.R_celln false HO_6.out (x37_2 : Int) p31 q31
           replace p31 := eq_true p31
           replace q31 := eq_true q31
           have HP33 := Kd.R_putg HO_6.out (x37_2 : Int) (rdOf false t195 x37_2)
           go_wp2_with (first | ((with_reducible refine gate_store (t := 4) (p := 52) rfl ?_); refine store_event (t := 4) (p := 52) (v := ?vo_w34) (w1 := (wr.setCell ⟨go31, (x37_2 : Int).toNat, none⟩ (.bool (rdOf false t195 x37_2)))) ?hg ?ho ?hn ?hr ?_; (case ho => rfl); (case hg => rfl); (case hn => rfl); (case hr => first | (go_simp; done) | (go_simp; rfl)); intro w34 hw; have hg : wr.grownBy w34 (some go31) := (by rw [hw]; exact HP33.2); have hp_ : Kd.R Kd.bool 4 w34 w.heap.size (fun k_ => some k_ ≠ (.slice (some ad200) t195.length co32 : Value).ownBlock) (.slice (some ⟨go31, 0, none⟩) x6_2.length co24) y201 := (by rw [hw, Ny201.out]; exact HP33.1); clear HP33; replace HO_8 := am_ (Kd.R_after (v := (.slice (some ⟨go31, 0, none⟩) x6_2.length co24)) (v1 := (.slice (some ⟨go31, 0, none⟩) x6_2.length co24)) (ok := (fun _ => True)) (rq_ (Kd.R_mono HO_8.out (fun _ hk => ⟨trivial, hk⟩))) hg (.inl rfl)); replace BK188 := am_ (blk_grown (bk_ BK188.out) hg (Kd.R_ne HO_6.out BK188.out (by decide))); replace BK189 := am_ (blk_grown (bk_ BK189.out) hg (Kd.R_ne HO_6.out BK189.out (by decide))); replace BK190 := am_ (blk_grown (bk_ BK190.out) hg (Kd.R_ne HO_6.out BK190.out (by decide))); replace HO_6 := am_ (hp_); replace HB := am_ ((by rw [hw]; exact below_set (HB.out) GB31.out : Below w.heap.size w w34)); clear hg hw hp_))
           (try simp only [← hl6_2])
           go_roundg k2
           case measure => have := HJ4.out; have := HK2.out; omega
           case rel => exact ⟨(y201), (wrap64 (x37_2 + 1)), y30_, H', ⟨by have := HJ4.out; have := HK2.out; omega⟩, ⟨by (try simp only [hl6_2]); (with_reducible repeat (first | apply Kd.R_alloc | apply Kd.R_drewN | apply Kd.R_drew)); exact HO_6.out⟩, ⟨by (try simp only [hl6_2]); (with_reducible repeat (first | apply Kd.R_alloc | apply Kd.R_drewN | apply Kd.R_drew)); exact Kd.R_mono HO_8.out (fun _ hk => hk.2)⟩, ⟨by (try simp only [hl6_2]); (with_reducible repeat (first | refine blk_drewN ?_ _ | refine blk_drew ?_ | refine blk_alloc ?_ _)); exact BK188.out⟩, ⟨by (try simp only [hl6_2]); (with_reducible repeat (first | refine blk_drewN ?_ _ | refine blk_drew ?_ | refine blk_alloc ?_ _)); exact BK189.out⟩, ⟨by (try simp only [hl6_2]); (with_reducible repeat (first | refine blk_drewN ?_ _ | refine blk_drew ?_ | refine blk_alloc ?_ _)); exact BK190.out⟩, ⟨bq_⟩⟩
          ·rw [if_neg c30] at H
           exact absurd H (by simp)
         ·replace c29 := Bool.eq_false_iff.mpr c29
          subst c29
          have H1 : (spec_BothOf.l0 k2 (x6_2.set (x37_2 : Int).toNat false) t195 (t191.length : Int) (wrap64 (x37_2 + 1)) a0_0 l0_1 a0_2) = some (r1, r2, r3, r4) := by rw [if_neg (show ¬ (false = true) by decide)] at H; exact H
          clear H
          have H := H1
          clear H1
          obtain ⟨y202, hy202⟩ : ∃ y_ : List Bool, y_ = (x6_2.set (x37_2 : Int).toNat false) := ⟨_, rfl⟩
          replace H : (spec_BothOf.l0 k2 y202 t195 (t191.length : Int) (wrap64 (x37_2 + 1)) a0_0 l0_1 a0_2) = some (r1, r2, r3, r4) := by first | (rw [hy202]; with_reducible exact H) | (have H2_ := (Option.bind_some _ _).symm.trans H; rw [hy202]; with_reducible exact H2_) | (have H2_ := (Option.bind_some _ _).symm.trans H; with_reducible exact H2_) | with_reducible exact H | (rw [hy202]; exact H) | exact H
          have Ny202 := am_ hy202
          clear hy202
          have H' := am_ H
          clear H
          have p199 : 0 ≤ (x37_2 : Int) := od_
          have q199 : x37_2 < (x6_2.length : Int) := od_
          obtain ⟨ad199, e199, hx199_0⟩ := Kd.at_bool (Kd.R_reads' HO_6.out).2.2 x37_2 p199 q199
          (try rw [← Nbq28.out] at hx199_0)
          cases e199
          replace p199 := eq_true p199
          replace q199 := eq_true q199
          have p35 : 0 ≤ (x37_2 : Int) := od_
          have q35 : (x37_2 : Int) < ((x6_2.length : Int) : Int) := od_
          obtain ⟨go35, co35, eo35, gb35, gl35, cl35, HG35⟩ := Kd.R_form HO_6.out (by omega)
          (first | cases eo35 | (injection eo35 with ea_ en_ ec_; (first | subst ea_ | (injection ea_ with ea_; subst ea_)); subst ec_; clear en_))
          have GB35 := am_ gb35
          have GG35 := am_ HG35
          clear gb35 gl35 HG35
          (first | simp only [add_plain] at hx199_0 | skip)
          obtain ⟨hx35_0, hf35_0⟩ := Kd.R_celln false HO_6.out (x37_2 : Int) p35 q35
          replace p35 := eq_true p35
          replace q35 := eq_true q35
          have HP36 := Kd.R_putg HO_6.out (x37_2 : Int) false
          go_wp2_with (first | ((with_reducible refine gate_store (t := 4) (p := 52) rfl ?_); refine store_event (t := 4) (p := 52) (v := ?vo_w37) (w1 := (wr.setCell ⟨go35, (x37_2 : Int).toNat, none⟩ (.bool false))) ?hg ?ho ?hn ?hr ?_; (case ho => rfl); (case hg => rfl); (case hn => rfl); (case hr => first | (go_simp; done) | (go_simp; rfl)); intro w37 hw; have hg : wr.grownBy w37 (some go35) := (by rw [hw]; exact HP36.2); have hp_ : Kd.R Kd.bool 4 w37 w.heap.size (fun k_ => some k_ ≠ (v196 : Value).ownBlock) (.slice (some ⟨go35, 0, none⟩) x6_2.length co24) y202 := (by rw [hw, Ny202.out]; exact HP36.1); clear HP36; replace HO_8 := am_ (Kd.R_after (v := (.slice (some ⟨go35, 0, none⟩) x6_2.length co24)) (v1 := (.slice (some ⟨go35, 0, none⟩) x6_2.length co24)) (ok := (fun _ => True)) (rq_ (Kd.R_mono HO_8.out (fun _ hk => ⟨trivial, hk⟩))) hg (.inl rfl)); replace BK188 := am_ (blk_grown (bk_ BK188.out) hg (Kd.R_ne HO_6.out BK188.out (by decide))); replace BK189 := am_ (blk_grown (bk_ BK189.out) hg (Kd.R_ne HO_6.out BK189.out (by decide))); replace BK190 := am_ (blk_grown (bk_ BK190.out) hg (Kd.R_ne HO_6.out BK190.out (by decide))); replace HO_6 := am_ (hp_); replace HB := am_ ((by rw [hw]; exact below_set (HB.out) GB35.out : Below w.heap.size w w37)); clear hg hw hp_))
          (try simp only [← hl6_2])
          go_roundg k2
          case measure => have := HJ4.out; have := HK2.out; omega
          case rel => exact ⟨(y202), (wrap64 (x37_2 + 1)), y30_, H', ⟨by have := HJ4.out; have := HK2.out; omega⟩, ⟨by (try simp only [hl6_2]); (with_reducible repeat (first | apply Kd.R_alloc | apply Kd.R_drewN | apply Kd.R_drew)); exact HO_6.out⟩, ⟨by (try simp only [hl6_2]); (with_reducible repeat (first | apply Kd.R_alloc | apply Kd.R_drewN | apply Kd.R_drew)); exact Kd.R_mono HO_8.out (fun _ hk => hk.2)⟩, ⟨by (try simp only [hl6_2]); (with_reducible repeat (first | refine blk_drewN ?_ _ | refine blk_drew ?_ | refine blk_alloc ?_ _)); exact BK188.out⟩, ⟨by (try simp only [hl6_2]); (with_reducible repeat (first | refine blk_drewN ?_ _ | refine blk_drew ?_ | refine blk_alloc ?_ _)); exact BK189.out⟩, ⟨by (try simp only [hl6_2]); (with_reducible repeat (first | refine blk_drewN ?_ _ | refine blk_drew ?_ | refine blk_alloc ?_ _)); exact BK190.out⟩, ⟨bq_⟩⟩
        ·rw [if_neg c27] at H
         exact absurd H (by simp)
       ·rw [if_neg c26] at H
        exact absurd H (by simp)
      ·rw [if_neg c25] at H
       have c25b0 : decide (x37_2 < (t191.length : Int)) = false := decide_eq_false c25
       (try (have c25hhl6_2 := c25b0; simp only [hl6_2] at c25hhl6_2))
       clear c25
       replace H := Option.bind_eq_some_iff.mp H
       obtain ⟨⟨t203, t204, t207⟩, A380, H⟩ := H
       replace H : (some (t203, t204, t207, true)) = some (r1, r2, r3, r4) := H
       have A38 := am_ A380
       clear A380
       simp only [Option.some.injEq, Prod.mk.injEq] at H
       obtain ⟨rfl, rfl, rfl, rfl⟩ := H
       have hnb39 := NB188_189.out
       have hnc39 := NB189_188.out
       have hnb40 := NB188_190.out
       have hnc40 := NB190_188.out
       have hcz41_0 := cq_ BK188.out 0 (.int .i64 a0_0)
       have hcz41_1 := cq_ BK188.out 1 (.slice A0_1 l0_1.length c0_1)
       have hcz41_2 := cq_ BK188.out 2 (.int .i64 a0_2)
       have hfz41_0 := blk_frozen BK188.out 0
       have hfz41_1 := blk_frozen BK188.out 1
       have hfz41_2 := blk_frozen BK188.out 2
       go_wp2_with (first | ((with_reducible refine gl_ 62 rfl ?_); refine goesM_ (some 57) Try.func62 #[.int .i64 a0_0, .slice Ao24 x6_2.length co24] ?_; (with_reducible refine (spec_l7Of.calls k2 a0_0 _ _ x6_2 t203 t204 t207 _ ?side1 ?side2 A38.out).mono ?_); (case side1 => exact cm_ (Kd.R_reads' HO_6.out).2.2); (case side2 => exact (Kd.R_reads' HO_6.out).2.1); rintro e w42 ⟨v205, rfl, ho0, hb⟩; refine ⟨_, rfl, ?_⟩; replace HO_6 := am_ (Kd.R_below (rq_ HO_6.out) hb); replace HO_8 := am_ (Kd.R_below (rq_ HO_8.out) hb); have HO206 := am_ (Kd.R_lower ho0 (below_size (bq_))); replace BK188 := bb_ BK188 hb; replace BK189 := bb_ BK189 hb; replace BK190 := bb_ BK190 hb; replace HB := bs_ hb; (try clear hb); (try clear ho0); have hnb43 := NB190_189.out; have hnc43 := NB189_190.out; have hcz44_0 := cq_ BK190.out 0 (.int .i64 0); have hcz44_1 := cq_ BK190.out 1 (.slice none 0 0); have hcz44_2 := cq_ BK190.out 2 (.int .i64 0); have hfz44_0 := blk_frozen BK190.out 0; have hfz44_1 := blk_frozen BK190.out 1; have hfz44_2 := blk_frozen BK190.out 2; obtain ⟨Ao45, co45, eo45⟩ := Kd.R_slice HO206.out; subst eo45))
       refine bodyPost_ret (results_ct rfl _ _ gb190 30 #[.int .i64 t203, .slice Ao45 t204.length co45, .int .i64 t207] (0, 0) _ rfl (bu_ BK190.out) Try.underlying30 rfl (by kernel_rfl)) rfl ?_
       exact ⟨_, by first | rfl | (simp [errW_none, errW_some] <;> rfl) | (simp [*, errW_none, errW_some] <;> rfl), rq_ (Kd.R_mono (Kd.R_far (p := ⟨gb190, 2, none⟩) (Kd.R_far (p := ⟨gb190, 1, none⟩) (Kd.R_far (p := ⟨gb190, 0, none⟩) (Kd.R_types HO206.out BK190.out (by decide)) (fun _ hk => hk.2) (.int .i64 t203)) (fun _ hk => hk.2) (.slice Ao45 t204.length co45)) (fun _ hk => hk.2) (.int .i64 t207)) (fun _ hk => trivial)), bq_⟩
end Go.Proofs.Ytpndhlcbfobelaa.PDX
