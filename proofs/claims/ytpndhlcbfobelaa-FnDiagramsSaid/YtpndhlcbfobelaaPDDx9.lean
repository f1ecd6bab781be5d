import Derived.Test.YtpndhlcbfobelaaPDDx0
import Derived.Test.YtpndhlcbfobelaaPDDx2
import Derived.Test.YtpndhlcbfobelaaPDDx5
import Derived.Test.YtpndhlcbfobelaaPDDx6
import Derived.Test.YtpndhlcbfobelaaPDDx8
namespace Go.Proofs.Ytpndhlcbfobelaa.PDD
open Go.RowKit Go.Proofs.YtpndhlcbfobelaaW.PrintWords Go.Proofs.YtpndhlcbfobelaaW.PrintLast Go.Proofs.YtpndhlcbfobelaaW.PrintMore
attribute [local go_sem] max2_int min2_int max_two min_two max_three min_three max_four min_four   -- for this text's walks alone
set_option linter.unusedVariables false
set_option linter.unusedSimpArgs false
def impl_OnesOf.l0 : Nat → Int → List Bool → Int → Int → Option (Int × Bool)
  | 0, _, _, _, _ => none
  | k + 1, x4, x11, x12, x13 => if x13 < x12 then (if 0 ≤ x13 then (if x13 < (x11.length : Int) then (if rdOf false x11 x13 = true then (impl_OnesOf.l0 k (wrap64 (x4 + 1)) x11 x12 (wrap64 (x13 + 1))) else (impl_OnesOf.l0 k x4 x11 x12 (wrap64 (x13 + 1)))) else (none)) else (none)) else (some (x4, true))
def impl_OnesOf.f (k : Nat) (a0_0 : Int) (l0_1 : List (S75)) (a0_2 : Int) : Option (Int × Bool) := (impl_GoodDiagram.f k a0_0 l0_1 a0_2).bind fun t189 => (if t189 = true then ((impl_Diagram_table.f k a0_0 l0_1 a0_2).bind fun t190 => (impl_OnesOf.l0 k 0 t190 (t190.length : Int) 0)) else (some (0, false)))
set_option maxHeartbeats 8000000 in
set_option maxRecDepth 100000 in
theorem impl_OnesOf.calls (k : Nat) (a0_0 : Int) (A0_1 : Option Addr) (c0_1 : Nat) (l0_1 : List (S75)) (a0_2 : Int) (r1 : Int) (r2 : Bool) (w : World) (hr0_1 : Kd.C k75 w A0_1 l0_1.length l0_1) (hc0_1 : l0_1.length ≤ c0_1) (h : impl_OnesOf.f k a0_0 l0_1 a0_2 = some (r1, r2)) :
    Calls Try.prog 15 #[.agg #[.int .i64 a0_0, .slice A0_1 l0_1.length c0_1, .int .i64 a0_2]] w fun e w' => e = .returned (.tuple #[.int .i64 r1, .bool r2]) ∧ Below w.heap.size w w' := by
  have hu30 := Try.underlying30
  have HR0_1 := Aside0.mk hr0_1
  have HC0_1 := Aside0.mk hc0_1
  clear hr0_1 hc0_1
  have HB := Aside0.mk (Below.refl w.heap.size w)
  have H : ((impl_GoodDiagram.f k a0_0 l0_1 a0_2).bind fun t189 => (if t189 = true then ((impl_Diagram_table.f k a0_0 l0_1 a0_2).bind fun t190 => (impl_OnesOf.l0 k 0 t190 (t190.length : Int) 0)) else (some (0, false)))) = some (r1, r2) := h
  clear h
  replace H := Option.bind_eq_some_iff.mp H
  obtain ⟨t189, A20, H⟩ := H
  replace H : (if t189 = true then ((impl_Diagram_table.f k a0_0 l0_1 a0_2).bind fun t190 => (impl_OnesOf.l0 k 0 t190 (t190.length : Int) 0)) else (some (0, false))) = some (r1, r2) := H
  have A2 := Aside0.mk A20
  clear A20
  by_cases c3 : t189 = true
  · subst c3
    have H1 : ((impl_Diagram_table.f k a0_0 l0_1 a0_2).bind fun t190 => (impl_OnesOf.l0 k 0 t190 (t190.length : Int) 0)) = some (r1, r2) := by rw [if_pos rfl] at H; exact H
    clear H
    have H := H1
    clear H1
    replace H := Option.bind_eq_some_iff.mp H
    obtain ⟨t190, A40, H⟩ := H
    replace H : (impl_OnesOf.l0 k 0 t190 (t190.length : Int) 0) = some (r1, r2) := H
    have A4 := Aside0.mk A40
    clear A40
    have H' := Aside0.mk H
    clear H
    go_enter Try.func15, Try.ntmps15
    go_wp2_with (first | ((with_reducible refine gate_dst (N := 1) rfl ?_); refine boxq_ (N := 1) (cs := #[.int .i64 a0_0, .slice A0_1 l0_1.length c0_1, .int .i64 a0_2]) (t := 30) ?_; intro gb188 hg w5 hbox hb; have n0_ := Aside0.mk (below_step (bq_) hb); have n1_ := Aside0.mk (hbox); have n2_ := Aside0.mk ((by rw [hg]; exact (below_size (bq_)) : w.heap.size ≤ gb188)); have n3_ := Aside0.mk ((by rw [hg]; exact (below_size (bq_)) : w.heap.size ≤ gb188)); clear HB; have HB := n0_; have BK188 := n1_; have GW188 := n2_; have GE188 := n3_; clear n0_ n1_ n2_ n3_; clear hb hbox hg; have hcz6_0 := cq_ BK188.out 0 (.int .i64 a0_0); have hcz6_1 := cq_ BK188.out 1 (.slice A0_1 l0_1.length c0_1); have hcz6_2 := cq_ BK188.out 2 (.int .i64 a0_2); have hfz6_0 := blk_frozen BK188.out 0; have hfz6_1 := blk_frozen BK188.out 1; have hfz6_2 := blk_frozen BK188.out 2) | ((with_reducible refine gate_callee (f := 44) rfl ?_); refine goesL_ (some 8) rfl rfl Try.func44 (by kernel_rfl) rfl #[.agg #[.int .i64 a0_0, .slice A0_1 l0_1.length c0_1, .int .i64 a0_2]] rfl (by (try simp only [List.map_toArray, List.map_cons, List.map_nil]); first | done | rfl | (simp only [List.length_drop, List.length_take]; rfl)) ?_; (with_reducible refine (impl_GoodDiagram.calls k a0_0 _ _ l0_1 a0_2 true _ ?side1 ?side2 A2.out).mono ?_); (case side1 => repeat (first | exact (Kd.C_below HR0_1.out HB.out) | (with_reducible refine Kd.C_alloc ?_ _) | (with_reducible refine Kd.C_drewN ?_ _) | (with_reducible refine Kd.C_drew ?_))); (case side2 => exact HC0_1.out); rintro e w7 ⟨rfl, hb⟩; refine ⟨_, rfl, ?_⟩; have n0_ := Aside0.mk (blk_below (bk_ BK188.out) hb); have n1_ := Aside0.mk (below_step (bq_) hb); clear BK188; clear HB; have BK188 := n0_; have HB := n1_; clear n0_ n1_; (try clear hb); (try clear hb2); (try clear hk); (try clear hi); have hcz8_0 := cq_ BK188.out 0 (.int .i64 a0_0); have hcz8_1 := cq_ BK188.out 1 (.slice A0_1 l0_1.length c0_1); have hcz8_2 := cq_ BK188.out 2 (.int .i64 a0_2); have hfz8_0 := blk_frozen BK188.out 0; have hfz8_1 := blk_frozen BK188.out 1; have hfz8_2 := blk_frozen BK188.out 2) | ((with_reducible refine gate_callee (f := 56) rfl ?_); refine goesL_ (some 11) rfl rfl Try.func56 (by kernel_rfl) rfl #[.agg #[.int .i64 a0_0, .slice A0_1 l0_1.length c0_1, .int .i64 a0_2]] rfl (by (try simp only [List.map_toArray, List.map_cons, List.map_nil]); first | done | rfl | (simp only [List.length_drop, List.length_take]; rfl)) ?_; (with_reducible refine (impl_Diagram_table.calls k a0_0 _ _ l0_1 a0_2 t190 _ ?side1 ?side2 A4.out).mono ?_); (case side1 => repeat (first | exact (Kd.C_below HR0_1.out HB.out) | (with_reducible refine Kd.C_alloc ?_ _) | (with_reducible refine Kd.C_drewN ?_ _) | (with_reducible refine Kd.C_drew ?_))); (case side2 => exact HC0_1.out); rintro e w9 ⟨v191, rfl, ho0, hb⟩; refine ⟨_, rfl, ?_⟩; have n0_ := Aside0.mk (Kd.R_lower ho0 (below_size (bq_))); have n1_ := Aside0.mk (blk_below (bk_ BK188.out) hb); have n2_ := Aside0.mk (below_step (bq_) hb); clear BK188; clear HB; have HO192 := n0_; have BK188 := n1_; have HB := n2_; clear n0_ n1_ n2_; (try clear hb); (try clear hb2); (try clear hk); (try clear hi); (try clear ho0); obtain ⟨Ao10, co10, eo10⟩ := Kd.R_slice HO192.out; subst eo10))
    go_loopg [4, 13] k (fun kq v4 v13 w' => ∃ (x4_1 : Int) (x13_1 : Int), v4 = .int .i64 x4_1 ∧ v13 = .int .i64 x13_1 ∧ Aside0 (impl_OnesOf.l0 kq x4_1 t190 (t190.length : Int) x13_1 = some (r1, r2)) ∧ Aside0 (kq ≤ k) ∧ Aside0 (Kd.R Kd.bool 4 w' w.heap.size (fun _ => True) (.slice Ao10 t190.length co10) t190) ∧ Aside0 (w'.heap[gb188]? = some (.cells #[.int .i64 a0_0, (.slice A0_1 l0_1.length c0_1), .int .i64 a0_2] 30 (0, 0))) ∧ Aside0 (Below w.heap.size w w'))
    case atStart => exact ⟨(0), (0), (by first | rfl | (simp; done) | (simp [*]; done)), (by first | rfl | (simp; done) | (simp [*]; done)), H', ⟨Nat.le_refl _⟩, ⟨rq_ HO192.out⟩, ⟨bk_ BK188.out⟩, ⟨bq_⟩⟩
    case round =>
      clear H'
      try clear c1
      try clear p2
      try clear c3
      try clear c4
      try clear c5
      try clear hcz6_0
      try clear hcz6_1
      try clear hcz6_2
      try clear hcz8_0
      try clear hcz8_1
      try clear hcz8_2
      try clear hfz6_0
      try clear hfz6_1
      try clear hfz6_2
      try clear hfz8_0
      try clear hfz8_1
      try clear hfz8_2
      obtain ⟨x4_1, x13_1, rfl, rfl, HA, HK1, HO_11, BK188, HB⟩ := hrel
      cases gk with
      | zero => exact absurd HA.out (by simp [impl_OnesOf.l0])
      | succ k1 =>
        have H := HA.out
        clear HA
        simp only [impl_OnesOf.l0] at H
        by_cases c11 : x13_1 < (t190.length : Int)
        · rw [if_pos c11] at H
          have c11b0 : decide (x13_1 < (t190.length : Int)) = true := decide_eq_true c11
          clear c11
          by_cases c12 : 0 ≤ x13_1
          · rw [if_pos c12] at H
            have c12b0 : decide (0 ≤ x13_1) = true := decide_eq_true c12
            clear c12
            by_cases c13 : x13_1 < (t190.length : Int)
            · rw [if_pos c13] at H
              have c13b0 : decide (x13_1 < (t190.length : Int)) = true := decide_eq_true c13
              clear c13
              obtain ⟨bq14, hbq14⟩ : ∃ b_ : Bool, b_ = (rdOf false t190 x13_1) := ⟨_, rfl⟩
              replace H : (if bq14 = true then (impl_OnesOf.l0 k1 (wrap64 (x4_1 + 1)) t190 (t190.length : Int) (wrap64 (x13_1 + 1))) else (impl_OnesOf.l0 k1 x4_1 t190 (t190.length : Int) (wrap64 (x13_1 + 1)))) = some (r1, r2) := by rw [← hbq14] at H; exact H
              have Nbq14 := Aside0.mk hbq14
              clear hbq14
              by_cases c15 : bq14 = true
              · subst c15
                have H1 : (impl_OnesOf.l0 k1 (wrap64 (x4_1 + 1)) t190 (t190.length : Int) (wrap64 (x13_1 + 1))) = some (r1, r2) := by rw [if_pos rfl] at H; exact H
                clear H
                have H := H1
                clear H1
                have H' := Aside0.mk H
                clear H
                have p193 : 0 ≤ (x13_1 : Int) := of_decide_eq_true (by first | (with_reducible assumption) | assumption)
                have q193 : x13_1 < (t190.length : Int) := of_decide_eq_true (by first | (with_reducible assumption) | assumption)
                obtain ⟨ad193, e193, hx193_0⟩ := Kd.at_bool (Kd.R_reads' HO_11.out).2.2 x13_1 p193 q193
                (try rw [← Nbq14.out] at hx193_0)
                cases e193
                replace p193 := eq_true p193
                replace q193 := eq_true q193
                go_wp2
                go_roundg k1
                case measure => have := HK1.out; omega
                case rel => exact ⟨(wrap64 (x4_1 + 1)), (wrap64 (x13_1 + 1)), (by first | rfl | (simp; done) | (simp [*]; done)), (by first | rfl | (simp; done) | (simp [*]; done)), H', ⟨by have := HK1.out; omega⟩, ⟨rq_ HO_11.out⟩, ⟨bk_ BK188.out⟩, ⟨bq_⟩⟩
              · replace c15 := Bool.eq_false_iff.mpr c15
                subst c15
                have H1 : (impl_OnesOf.l0 k1 x4_1 t190 (t190.length : Int) (wrap64 (x13_1 + 1))) = some (r1, r2) := by rw [if_neg (show ¬ (false = true) by decide)] at H; exact H
                clear H
                have H := H1
                clear H1
                have H' := Aside0.mk H
                clear H
                have p193 : 0 ≤ (x13_1 : Int) := of_decide_eq_true (by first | (with_reducible assumption) | assumption)
                have q193 : x13_1 < (t190.length : Int) := of_decide_eq_true (by first | (with_reducible assumption) | assumption)
                obtain ⟨ad193, e193, hx193_0⟩ := Kd.at_bool (Kd.R_reads' HO_11.out).2.2 x13_1 p193 q193
                (try rw [← Nbq14.out] at hx193_0)
                cases e193
                replace p193 := eq_true p193
                replace q193 := eq_true q193
                go_wp2
                go_roundg k1
                case measure => have := HK1.out; omega
                case rel => exact ⟨(x4_1), (wrap64 (x13_1 + 1)), (by first | rfl | (simp; done) | (simp [*]; done)), (by first | rfl | (simp; done) | (simp [*]; done)), H', ⟨by have := HK1.out; omega⟩, ⟨rq_ HO_11.out⟩, ⟨bk_ BK188.out⟩, ⟨bq_⟩⟩
            · rw [if_neg c13] at H
              exact absurd H (by simp)
          · rw [if_neg c12] at H
            exact absurd H (by simp)
        · rw [if_neg c11] at H
          have c11b0 : decide (x13_1 < (t190.length : Int)) = false := decide_eq_false c11
          clear c11
          simp only [Option.some.injEq, Prod.mk.injEq] at H
          obtain ⟨rfl, rfl⟩ := H
          go_wp2
          go_ret2
          exact ⟨by first | rfl | (simp [errW_none, errW_some] <;> rfl) | (simp [*, errW_none, errW_some] <;> rfl), bq_⟩
  · replace c3 := Bool.eq_false_iff.mpr c3
    subst c3
    have H1 : (some (0, false)) = some (r1, r2) := by rw [if_neg (show ¬ (false = true) by decide)] at H; exact H
    clear H
    have H := H1
    clear H1
    simp only [Option.some.injEq, Prod.mk.injEq] at H
    obtain ⟨rfl, rfl⟩ := H
    go_enter Try.func15, Try.ntmps15
    go_wp2_with (first | ((with_reducible refine gate_dst (N := 1) rfl ?_); refine boxq_ (N := 1) (cs := #[.int .i64 a0_0, .slice A0_1 l0_1.length c0_1, .int .i64 a0_2]) (t := 30) ?_; intro gb188 hg w16 hbox hb; have n0_ := Aside0.mk (below_step (bq_) hb); have n1_ := Aside0.mk (hbox); have n2_ := Aside0.mk ((by rw [hg]; exact (below_size (bq_)) : w.heap.size ≤ gb188)); have n3_ := Aside0.mk ((by rw [hg]; exact (below_size (bq_)) : w.heap.size ≤ gb188)); clear HB; have HB := n0_; have BK188 := n1_; have GW188 := n2_; have GE188 := n3_; clear n0_ n1_ n2_ n3_; clear hb hbox hg; have hcz17_0 := cq_ BK188.out 0 (.int .i64 a0_0); have hcz17_1 := cq_ BK188.out 1 (.slice A0_1 l0_1.length c0_1); have hcz17_2 := cq_ BK188.out 2 (.int .i64 a0_2); have hfz17_0 := blk_frozen BK188.out 0; have hfz17_1 := blk_frozen BK188.out 1; have hfz17_2 := blk_frozen BK188.out 2) | ((with_reducible refine gate_callee (f := 44) rfl ?_); refine goesL_ (some 8) rfl rfl Try.func44 (by kernel_rfl) rfl #[.agg #[.int .i64 a0_0, .slice A0_1 l0_1.length c0_1, .int .i64 a0_2]] rfl (by (try simp only [List.map_toArray, List.map_cons, List.map_nil]); first | done | rfl | (simp only [List.length_drop, List.length_take]; rfl)) ?_; (with_reducible refine (impl_GoodDiagram.calls k a0_0 _ _ l0_1 a0_2 false _ ?side1 ?side2 A2.out).mono ?_); (case side1 => repeat (first | exact (Kd.C_below HR0_1.out HB.out) | (with_reducible refine Kd.C_alloc ?_ _) | (with_reducible refine Kd.C_drewN ?_ _) | (with_reducible refine Kd.C_drew ?_))); (case side2 => exact HC0_1.out); rintro e w18 ⟨rfl, hb⟩; refine ⟨_, rfl, ?_⟩; have n0_ := Aside0.mk (blk_below (bk_ BK188.out) hb); have n1_ := Aside0.mk (below_step (bq_) hb); clear BK188; clear HB; have BK188 := n0_; have HB := n1_; clear n0_ n1_; (try clear hb); (try clear hb2); (try clear hk); (try clear hi)))
    go_ret2
    exact ⟨by first | rfl | (simp [errW_none, errW_some] <;> rfl) | (simp [*, errW_none, errW_some] <;> rfl), bq_⟩
def spec_EvalDiagram.f (k : Nat) (a0_0 : Int) (l0_1 : List (S75)) (a0_2 : Int) (l1 : List Bool) : Option (Bool × Bool) := (spec_GoodDiagram.f k a0_0 l0_1 a0_2).bind fun t195 => (if t195 = true then (if (l1.length : Int) = a0_0 then ((spec_l7Eval.f k a0_0 l0_1 a0_2 l1).bind fun t196 => (some (t196, true))) else (some (false, false))) else (some (false, false)))
set_option maxHeartbeats 8000000 in
set_option maxRecDepth 100000 in
theorem spec_EvalDiagram.calls (k : Nat) (a0_0 : Int) (A0_1 : Option Addr) (c0_1 : Nat) (l0_1 : List (S75)) (a0_2 : Int) (A1 : Option Addr) (c1 : Nat) (l1 : List Bool) (r1 : Bool) (r2 : Bool) (w : World) (hr0_1 : Kd.C k75 w A0_1 l0_1.length l0_1) (hc0_1 : l0_1.length ≤ c0_1) (hr1 : Kd.C Kd.bool w A1 l1.length l1) (hc1 : l1.length ≤ c1) (h : spec_EvalDiagram.f k a0_0 l0_1 a0_2 l1 = some (r1, r2)) :
    Calls Try.prog 17 #[.agg #[.int .i64 a0_0, .slice A0_1 l0_1.length c0_1, .int .i64 a0_2], .slice A1 l1.length c1] w fun e w' => e = .returned (.tuple #[.bool r1, .bool r2]) ∧ Below w.heap.size w w' := by
  have hu30 := Try.underlying30
  have HR0_1 := Aside0.mk hr0_1
  have HC0_1 := Aside0.mk hc0_1
  clear hr0_1 hc0_1
  have HR1 := Aside0.mk hr1
  have HC1 := Aside0.mk hc1
  clear hr1 hc1
  have HB := Aside0.mk (Below.refl w.heap.size w)
  have H : ((spec_GoodDiagram.f k a0_0 l0_1 a0_2).bind fun t195 => (if t195 = true then (if (l1.length : Int) = a0_0 then ((spec_l7Eval.f k a0_0 l0_1 a0_2 l1).bind fun t196 => (some (t196, true))) else (some (false, false))) else (some (false, false)))) = some (r1, r2) := h
  clear h
  replace H := Option.bind_eq_some_iff.mp H
  obtain ⟨t195, A30, H⟩ := H
  replace H : (if t195 = true then (if (l1.length : Int) = a0_0 then ((spec_l7Eval.f k a0_0 l0_1 a0_2 l1).bind fun t196 => (some (t196, true))) else (some (false, false))) else (some (false, false))) = some (r1, r2) := H
  have A3 := Aside0.mk A30
  clear A30
  by_cases c4 : t195 = true
  · subst c4
    have H1 : (if (l1.length : Int) = a0_0 then ((spec_l7Eval.f k a0_0 l0_1 a0_2 l1).bind fun t196 => (some (t196, true))) else (some (false, false))) = some (r1, r2) := by rw [if_pos rfl] at H; exact H
    clear H
    have H := H1
    clear H1
    by_cases c5 : (l1.length : Int) = a0_0
    · rw [if_pos c5] at H
      have c5b0 : ((l1.length : Int) == a0_0) = true := beq_iff_eq.mpr c5
      have c5b1 : ((l1.length : Int) != a0_0) = false := bne_eq_false_iff_eq.mpr c5
      clear c5
      replace H := Option.bind_eq_some_iff.mp H
      obtain ⟨t196, A60, H⟩ := H
      replace H : (some (t196, true)) = some (r1, r2) := H
      have A6 := Aside0.mk A60
      clear A60
      simp only [Option.some.injEq, Prod.mk.injEq] at H
      obtain ⟨rfl, rfl⟩ := H
      go_enter Try.func17, Try.ntmps17
      go_wp2_with (first | ((with_reducible refine gate_dst (N := 2) rfl ?_); (try (refine gate_guard (by rfl) ?_; dsimp only)); refine boxq_ (N := 2) (cs := #[.int .i64 a0_0, .slice A0_1 l0_1.length c0_1, .int .i64 a0_2]) (t := 30) ?_; intro gb194 hg w7 hbox hb; have n0_ := Aside0.mk (below_step (bq_) hb); have n1_ := Aside0.mk (hbox); have n2_ := Aside0.mk ((by rw [hg]; exact (below_size (bq_)) : w.heap.size ≤ gb194)); have n3_ := Aside0.mk ((by rw [hg]; exact (below_size (bq_)) : w.heap.size ≤ gb194)); clear HB; have HB := n0_; have BK194 := n1_; have GW194 := n2_; have GE194 := n3_; clear n0_ n1_ n2_ n3_; clear hb hbox hg; have hcz8_0 := cq_ BK194.out 0 (.int .i64 a0_0); have hcz8_1 := cq_ BK194.out 1 (.slice A0_1 l0_1.length c0_1); have hcz8_2 := cq_ BK194.out 2 (.int .i64 a0_2); have hfz8_0 := blk_frozen BK194.out 0; have hfz8_1 := blk_frozen BK194.out 1; have hfz8_2 := blk_frozen BK194.out 2) | ((with_reducible refine gate_callee (f := 48) rfl ?_); refine goesL_ (some 7) rfl rfl Try.func48 (by kernel_rfl) rfl #[.agg #[.int .i64 a0_0, .slice A0_1 l0_1.length c0_1, .int .i64 a0_2]] rfl (by (try simp only [List.map_toArray, List.map_cons, List.map_nil]); first | done | rfl | (simp only [List.length_drop, List.length_take]; rfl)) ?_; (with_reducible refine (spec_GoodDiagram.calls k a0_0 _ _ l0_1 a0_2 true _ ?side1 ?side2 A3.out).mono ?_); (case side1 => repeat (first | exact (Kd.C_below HR0_1.out HB.out) | (with_reducible refine Kd.C_alloc ?_ _) | (with_reducible refine Kd.C_drewN ?_ _) | (with_reducible refine Kd.C_drew ?_))); (case side2 => exact HC0_1.out); rintro e w9 ⟨rfl, hb⟩; refine ⟨_, rfl, ?_⟩; have n0_ := Aside0.mk (blk_below (bk_ BK194.out) hb); have n1_ := Aside0.mk (below_step (bq_) hb); clear BK194; clear HB; have BK194 := n0_; have HB := n1_; clear n0_ n1_; (try clear hb); (try clear hb2); (try clear hk); (try clear hi); have hcz10_0 := cq_ BK194.out 0 (.int .i64 a0_0); have hcz10_1 := cq_ BK194.out 1 (.slice A0_1 l0_1.length c0_1); have hcz10_2 := cq_ BK194.out 2 (.int .i64 a0_2); have hfz10_0 := blk_frozen BK194.out 0; have hfz10_1 := blk_frozen BK194.out 1; have hfz10_2 := blk_frozen BK194.out 2) | ((with_reducible refine gate_callee (f := 58) rfl ?_); refine goesL_ (some 18) rfl rfl Try.func58 (by kernel_rfl) rfl #[.agg #[.int .i64 a0_0, .slice A0_1 l0_1.length c0_1, .int .i64 a0_2], .slice A1 l1.length c1] rfl (by (try simp only [List.map_toArray, List.map_cons, List.map_nil]); first | done | rfl | (simp only [List.length_drop, List.length_take]; rfl)) ?_; (with_reducible refine (spec_l7Eval.calls k a0_0 _ _ l0_1 a0_2 _ _ l1 t196 _ ?side1 ?side2 ?side3 ?side4 A6.out).mono ?_); (case side1 => repeat (first | exact (Kd.C_below HR0_1.out HB.out) | (with_reducible refine Kd.C_alloc ?_ _) | (with_reducible refine Kd.C_drewN ?_ _) | (with_reducible refine Kd.C_drew ?_))); (case side2 => exact HC0_1.out); (case side3 => repeat (first | exact (Kd.C_below HR1.out HB.out) | (with_reducible refine Kd.C_alloc ?_ _) | (with_reducible refine Kd.C_drewN ?_ _) | (with_reducible refine Kd.C_drew ?_))); (case side4 => exact HC1.out); rintro e w11 ⟨rfl, hb⟩; refine ⟨_, rfl, ?_⟩; have n0_ := Aside0.mk (blk_below (bk_ BK194.out) hb); have n1_ := Aside0.mk (below_step (bq_) hb); clear BK194; clear HB; have BK194 := n0_; have HB := n1_; clear n0_ n1_; (try clear hb); (try clear hb2); (try clear hk); (try clear hi)))
      go_ret2
      exact ⟨by first | rfl | (simp [errW_none, errW_some] <;> rfl) | (simp [*, errW_none, errW_some] <;> rfl), bq_⟩
    · rw [if_neg c5] at H
      have c5b0 : ((l1.length : Int) == a0_0) = false := beq_eq_false_iff_ne.mpr c5
      have c5b1 : ((l1.length : Int) != a0_0) = true := bne_iff_ne.mpr c5
      simp only [Option.some.injEq, Prod.mk.injEq] at H
      obtain ⟨rfl, rfl⟩ := H
      go_enter Try.func17, Try.ntmps17
      go_wp2_with (first | ((with_reducible refine gate_dst (N := 2) rfl ?_); (try (refine gate_guard (by rfl) ?_; dsimp only)); refine boxq_ (N := 2) (cs := #[.int .i64 a0_0, .slice A0_1 l0_1.length c0_1, .int .i64 a0_2]) (t := 30) ?_; intro gb194 hg w12 hbox hb; have n0_ := Aside0.mk (below_step (bq_) hb); have n1_ := Aside0.mk (hbox); have n2_ := Aside0.mk ((by rw [hg]; exact (below_size (bq_)) : w.heap.size ≤ gb194)); have n3_ := Aside0.mk ((by rw [hg]; exact (below_size (bq_)) : w.heap.size ≤ gb194)); clear HB; have HB := n0_; have BK194 := n1_; have GW194 := n2_; have GE194 := n3_; clear n0_ n1_ n2_ n3_; clear hb hbox hg; have hcz13_0 := cq_ BK194.out 0 (.int .i64 a0_0); have hcz13_1 := cq_ BK194.out 1 (.slice A0_1 l0_1.length c0_1); have hcz13_2 := cq_ BK194.out 2 (.int .i64 a0_2); have hfz13_0 := blk_frozen BK194.out 0; have hfz13_1 := blk_frozen BK194.out 1; have hfz13_2 := blk_frozen BK194.out 2) | ((with_reducible refine gate_callee (f := 48) rfl ?_); refine goesL_ (some 7) rfl rfl Try.func48 (by kernel_rfl) rfl #[.agg #[.int .i64 a0_0, .slice A0_1 l0_1.length c0_1, .int .i64 a0_2]] rfl (by (try simp only [List.map_toArray, List.map_cons, List.map_nil]); first | done | rfl | (simp only [List.length_drop, List.length_take]; rfl)) ?_; (with_reducible refine (spec_GoodDiagram.calls k a0_0 _ _ l0_1 a0_2 true _ ?side1 ?side2 A3.out).mono ?_); (case side1 => repeat (first | exact (Kd.C_below HR0_1.out HB.out) | (with_reducible refine Kd.C_alloc ?_ _) | (with_reducible refine Kd.C_drewN ?_ _) | (with_reducible refine Kd.C_drew ?_))); (case side2 => exact HC0_1.out); rintro e w14 ⟨rfl, hb⟩; refine ⟨_, rfl, ?_⟩; have n0_ := Aside0.mk (blk_below (bk_ BK194.out) hb); have n1_ := Aside0.mk (below_step (bq_) hb); clear BK194; clear HB; have BK194 := n0_; have HB := n1_; clear n0_ n1_; (try clear hb); (try clear hb2); (try clear hk); (try clear hi); have hcz15_0 := cq_ BK194.out 0 (.int .i64 a0_0); have hcz15_1 := cq_ BK194.out 1 (.slice A0_1 l0_1.length c0_1); have hcz15_2 := cq_ BK194.out 2 (.int .i64 a0_2); have hfz15_0 := blk_frozen BK194.out 0; have hfz15_1 := blk_frozen BK194.out 1; have hfz15_2 := blk_frozen BK194.out 2))
      go_ret2
      exact ⟨by first | rfl | (simp [errW_none, errW_some] <;> rfl) | (simp [*, errW_none, errW_some] <;> rfl), bq_⟩
  · replace c4 := Bool.eq_false_iff.mpr c4
    subst c4
    have H1 : (some (false, false)) = some (r1, r2) := by rw [if_neg (show ¬ (false = true) by decide)] at H; exact H
    clear H
    have H := H1
    clear H1
    simp only [Option.some.injEq, Prod.mk.injEq] at H
    obtain ⟨rfl, rfl⟩ := H
    go_enter Try.func17, Try.ntmps17
    go_wp2_with (first | ((with_reducible refine gate_dst (N := 2) rfl ?_); (try (refine gate_guard (by rfl) ?_; dsimp only)); refine boxq_ (N := 2) (cs := #[.int .i64 a0_0, .slice A0_1 l0_1.length c0_1, .int .i64 a0_2]) (t := 30) ?_; intro gb194 hg w16 hbox hb; have n0_ := Aside0.mk (below_step (bq_) hb); have n1_ := Aside0.mk (hbox); have n2_ := Aside0.mk ((by rw [hg]; exact (below_size (bq_)) : w.heap.size ≤ gb194)); have n3_ := Aside0.mk ((by rw [hg]; exact (below_size (bq_)) : w.heap.size ≤ gb194)); clear HB; have HB := n0_; have BK194 := n1_; have GW194 := n2_; have GE194 := n3_; clear n0_ n1_ n2_ n3_; clear hb hbox hg; have hcz17_0 := cq_ BK194.out 0 (.int .i64 a0_0); have hcz17_1 := cq_ BK194.out 1 (.slice A0_1 l0_1.length c0_1); have hcz17_2 := cq_ BK194.out 2 (.int .i64 a0_2); have hfz17_0 := blk_frozen BK194.out 0; have hfz17_1 := blk_frozen BK194.out 1; have hfz17_2 := blk_frozen BK194.out 2) | ((with_reducible refine gate_callee (f := 48) rfl ?_); refine goesL_ (some 7) rfl rfl Try.func48 (by kernel_rfl) rfl #[.agg #[.int .i64 a0_0, .slice A0_1 l0_1.length c0_1, .int .i64 a0_2]] rfl (by (try simp only [List.map_toArray, List.map_cons, List.map_nil]); first | done | rfl | (simp only [List.length_drop, List.length_take]; rfl)) ?_; (with_reducible refine (spec_GoodDiagram.calls k a0_0 _ _ l0_1 a0_2 false _ ?side1 ?side2 A3.out).mono ?_); (case side1 => repeat (first | exact (Kd.C_below HR0_1.out HB.out) | (with_reducible refine Kd.C_alloc ?_ _) | (with_reducible refine Kd.C_drewN ?_ _) | (with_reducible refine Kd.C_drew ?_))); (case side2 => exact HC0_1.out); rintro e w18 ⟨rfl, hb⟩; refine ⟨_, rfl, ?_⟩; have n0_ := Aside0.mk (blk_below (bk_ BK194.out) hb); have n1_ := Aside0.mk (below_step (bq_) hb); clear BK194; clear HB; have BK194 := n0_; have HB := n1_; clear n0_ n1_; (try clear hb); (try clear hb2); (try clear hk); (try clear hi)))
    go_ret2
    exact ⟨by first | rfl | (simp [errW_none, errW_some] <;> rfl) | (simp [*, errW_none, errW_some] <;> rfl), bq_⟩
mutual
def impl_EvalDiagram.j0 : Nat → List Bool → Bool → Int → List (S75) → Int → Option (Bool × Bool)
  | 0, _, _, _, _, _ => none
  | k + 1, x1, x18, x198000, x198001, x198002 => if x18 = true then (some (false, false)) else (impl_EvalDiagram.l0 k 0 x1 (x1.length : Int) 0 x198000 x198001 x198002)
def impl_EvalDiagram.l0 : Nat → Int → List Bool → Int → Int → Int → List (S75) → Int → Option (Bool × Bool)
  | 0, _, _, _, _, _, _, _ => none
  | k + 1, x6, x19, x20, x21, x198000, x198001, x198002 => if x21 < x20 then (if 0 ≤ x21 then (if x21 < (x19.length : Int) then (if rdOf false x19 x21 = true then (impl_EvalDiagram.l0 k (Go.bits .or .i64 x6 (shl .i64 1 x21)) x19 x20 (wrap64 (x21 + 1)) x198000 x198001 x198002) else (impl_EvalDiagram.l0 k x6 x19 x20 (wrap64 (x21 + 1)) x198000 x198001 x198002)) else (none)) else (none)) else ((impl_Diagram_value.f k x198000 x198001 x198002 x6).bind fun t200 => (some (t200, true)))
end
def impl_EvalDiagram.f (k : Nat) (a0_0 : Int) (l0_1 : List (S75)) (a0_2 : Int) (l1 : List Bool) : Option (Bool × Bool) := (impl_GoodDiagram.f k a0_0 l0_1 a0_2).bind fun t198 => (if t198 = true then (impl_EvalDiagram.j0 k l1 ((l1.length : Int) != a0_0) a0_0 l0_1 a0_2) else (impl_EvalDiagram.j0 k l1 true a0_0 l0_1 a0_2))
set_option maxHeartbeats 8000000 in
set_option maxRecDepth 100000 in
theorem impl_EvalDiagram.calls (k : Nat) (a0_0 : Int) (A0_1 : Option Addr) (c0_1 : Nat) (l0_1 : List (S75)) (a0_2 : Int) (A1 : Option Addr) (c1 : Nat) (l1 : List Bool) (r1 : Bool) (r2 : Bool) (w : World) (hr0_1 : Kd.C k75 w A0_1 l0_1.length l0_1) (hc0_1 : l0_1.length ≤ c0_1) (hr1 : Kd.C Kd.bool w A1 l1.length l1) (hc1 : l1.length ≤ c1) (h : impl_EvalDiagram.f k a0_0 l0_1 a0_2 l1 = some (r1, r2)) :
    Calls Try.prog 19 #[.agg #[.int .i64 a0_0, .slice A0_1 l0_1.length c0_1, .int .i64 a0_2], .slice A1 l1.length c1] w fun e w' => e = .returned (.tuple #[.bool r1, .bool r2]) ∧ Below w.heap.size w w' := by
  have hu30 := Try.underlying30
  have HR0_1 := Aside0.mk hr0_1
  have HC0_1 := Aside0.mk hc0_1
  clear hr0_1 hc0_1
  have HR1 := Aside0.mk hr1
  have HC1 := Aside0.mk hc1
  clear hr1 hc1
  have HB := Aside0.mk (Below.refl w.heap.size w)
  have H : ((impl_GoodDiagram.f k a0_0 l0_1 a0_2).bind fun t198 => (if t198 = true then (impl_EvalDiagram.j0 k l1 ((l1.length : Int) != a0_0) a0_0 l0_1 a0_2) else (impl_EvalDiagram.j0 k l1 true a0_0 l0_1 a0_2))) = some (r1, r2) := h
  clear h
  have HC3 := Aside0.mk H
  clear H
  go_enter Try.func19, Try.ntmps19
  go_upto_region 1 with (first | ((with_reducible refine gate_dst (N := 2) rfl ?_); (try (refine gate_guard (by rfl) ?_; dsimp only)); refine boxq_ (N := 2) (cs := #[.int .i64 a0_0, .slice A0_1 l0_1.length c0_1, .int .i64 a0_2]) (t := 30) ?_; intro gb197 hg w4 hbox hb; have n0_ := Aside0.mk (below_step (bq_) hb); have n1_ := Aside0.mk (hbox); have n2_ := Aside0.mk ((by rw [hg]; exact (below_size (bq_)) : w.heap.size ≤ gb197)); have n3_ := Aside0.mk ((by rw [hg]; exact (below_size (bq_)) : w.heap.size ≤ gb197)); clear HB; have HB := n0_; have BK197 := n1_; have GW197 := n2_; have GE197 := n3_; clear n0_ n1_ n2_ n3_; clear hb hbox hg))
  (try simp only [Act.put, List.setIfInBounds_toArray, List.set_cons_zero, List.set_cons_succ])
  go_cut [18] (fun v18 wc => ∃ (kq : Nat) (x18_2 : Bool), v18 = .bool x18_2 ∧ Aside0 (impl_EvalDiagram.j0 kq l1 x18_2 a0_0 l0_1 a0_2 = some (r1, r2)) ∧ Aside0 (kq ≤ k) ∧ Aside0 (wc.heap[gb197]? = some (.cells #[.int .i64 a0_0, (.slice A0_1 l0_1.length c0_1), .int .i64 a0_2] 30 (0, 0))) ∧ Aside0 (Below w.heap.size w wc))
  case first =>
    have H := HC3.out
    clear HC3
    replace H := Option.bind_eq_some_iff.mp H
    obtain ⟨t198, A50, H⟩ := H
    replace H : (if t198 = true then (impl_EvalDiagram.j0 k l1 ((l1.length : Int) != a0_0) a0_0 l0_1 a0_2) else (impl_EvalDiagram.j0 k l1 true a0_0 l0_1 a0_2)) = some (r1, r2) := H
    have A5 := Aside0.mk A50
    clear A50
    by_cases c6 : t198 = true
    · subst c6
      have H1 : (impl_EvalDiagram.j0 k l1 ((l1.length : Int) != a0_0) a0_0 l0_1 a0_2) = some (r1, r2) := by rw [if_pos rfl] at H; exact H
      clear H
      have H := H1
      clear H1
      have H' := Aside0.mk H
      clear H
      have hcz7_0 := cq_ BK197.out 0 (.int .i64 a0_0)
      have hcz7_1 := cq_ BK197.out 1 (.slice A0_1 l0_1.length c0_1)
      have hcz7_2 := cq_ BK197.out 2 (.int .i64 a0_2)
      have hfz7_0 := blk_frozen BK197.out 0
      have hfz7_1 := blk_frozen BK197.out 1
      have hfz7_2 := blk_frozen BK197.out 2
      go_wp2_with (first | ((with_reducible refine gate_callee (f := 44) rfl ?_); refine goesL_ (some 10) rfl rfl Try.func44 (by kernel_rfl) rfl #[.agg #[.int .i64 a0_0, .slice A0_1 l0_1.length c0_1, .int .i64 a0_2]] rfl (by (try simp only [List.map_toArray, List.map_cons, List.map_nil]); first | done | rfl | (simp only [List.length_drop, List.length_take]; rfl)) ?_; (with_reducible refine (impl_GoodDiagram.calls k a0_0 _ _ l0_1 a0_2 true _ ?side1 ?side2 A5.out).mono ?_); (case side1 => repeat (first | exact (Kd.C_below HR0_1.out HB.out) | (with_reducible refine Kd.C_alloc ?_ _) | (with_reducible refine Kd.C_drewN ?_ _) | (with_reducible refine Kd.C_drew ?_))); (case side2 => exact HC0_1.out); rintro e w8 ⟨rfl, hb⟩; refine ⟨_, rfl, ?_⟩; have n0_ := Aside0.mk (blk_below (bk_ BK197.out) hb); have n1_ := Aside0.mk (below_step (bq_) hb); clear BK197; clear HB; have BK197 := n0_; have HB := n1_; clear n0_ n1_; (try clear hb); (try clear hb2); (try clear hk); (try clear hi); have hcz9_0 := cq_ BK197.out 0 (.int .i64 a0_0); have hcz9_1 := cq_ BK197.out 1 (.slice A0_1 l0_1.length c0_1); have hcz9_2 := cq_ BK197.out 2 (.int .i64 a0_2); have hfz9_0 := blk_frozen BK197.out 0; have hfz9_1 := blk_frozen BK197.out 1; have hfz9_2 := blk_frozen BK197.out 2))
      go_meet
      case rel => exact ⟨_, (((l1.length : Int) != a0_0)), (by first | rfl | (simp; done) | (simp [*]; done)), H', ⟨by first | omega | exact Nat.le_refl _⟩, ⟨bk_ BK197.out⟩, ⟨bq_⟩⟩
    · replace c6 := Bool.eq_false_iff.mpr c6
      subst c6
      have H1 : (impl_EvalDiagram.j0 k l1 true a0_0 l0_1 a0_2) = some (r1, r2) := by rw [if_neg (show ¬ (false = true) by decide)] at H; exact H
      clear H
      have H := H1
      clear H1
      have H' := Aside0.mk H
      clear H
      have hcz10_0 := cq_ BK197.out 0 (.int .i64 a0_0)
      have hcz10_1 := cq_ BK197.out 1 (.slice A0_1 l0_1.length c0_1)
      have hcz10_2 := cq_ BK197.out 2 (.int .i64 a0_2)
      have hfz10_0 := blk_frozen BK197.out 0
      have hfz10_1 := blk_frozen BK197.out 1
      have hfz10_2 := blk_frozen BK197.out 2
      go_wp2_with (first | ((with_reducible refine gate_callee (f := 44) rfl ?_); refine goesL_ (some 10) rfl rfl Try.func44 (by kernel_rfl) rfl #[.agg #[.int .i64 a0_0, .slice A0_1 l0_1.length c0_1, .int .i64 a0_2]] rfl (by (try simp only [List.map_toArray, List.map_cons, List.map_nil]); first | done | rfl | (simp only [List.length_drop, List.length_take]; rfl)) ?_; (with_reducible refine (impl_GoodDiagram.calls k a0_0 _ _ l0_1 a0_2 false _ ?side1 ?side2 A5.out).mono ?_); (case side1 => repeat (first | exact (Kd.C_below HR0_1.out HB.out) | (with_reducible refine Kd.C_alloc ?_ _) | (with_reducible refine Kd.C_drewN ?_ _) | (with_reducible refine Kd.C_drew ?_))); (case side2 => exact HC0_1.out); rintro e w11 ⟨rfl, hb⟩; refine ⟨_, rfl, ?_⟩; have n0_ := Aside0.mk (blk_below (bk_ BK197.out) hb); have n1_ := Aside0.mk (below_step (bq_) hb); clear BK197; clear HB; have BK197 := n0_; have HB := n1_; clear n0_ n1_; (try clear hb); (try clear hb2); (try clear hk); (try clear hi)))
      go_meet
      case rel => exact ⟨_, (true), (by first | rfl | (simp; done) | (simp [*]; done)), H', ⟨by first | omega | exact Nat.le_refl _⟩, ⟨bk_ BK197.out⟩, ⟨bq_⟩⟩
  case rest =>
    clear HC3
    try clear c1
    try clear p2
    try clear c4
    try clear c6
    try clear hcz10_0
    try clear hcz10_1
    try clear hcz10_2
    try clear hcz7_0
    try clear hcz7_1
    try clear hcz7_2
    try clear hcz9_0
    try clear hcz9_1
    try clear hcz9_2
    try clear hfz10_0
    try clear hfz10_1
    try clear hfz10_2
    try clear hfz7_0
    try clear hfz7_1
    try clear hfz7_2
    try clear hfz9_0
    try clear hfz9_1
    try clear hfz9_2
    obtain ⟨kq, x18_2, rfl, HA, HJ2, BK197, HB⟩ := hcut
    cases kq with
    | zero => exact absurd HA.out (by simp [impl_EvalDiagram.j0])
    | succ kj2 =>
      have H := HA.out
      clear HA
      simp only [impl_EvalDiagram.j0] at H
      by_cases c12 : x18_2 = true
      · subst c12
        have H1 : (some (false, false)) = some (r1, r2) := by rw [if_pos rfl] at H; exact H
        clear H
        have H := H1
        clear H1
        simp only [Option.some.injEq, Prod.mk.injEq] at H
        obtain ⟨rfl, rfl⟩ := H
        go_wp2
        go_ret2
        exact ⟨by first | rfl | (simp [errW_none, errW_some] <;> rfl) | (simp [*, errW_none, errW_some] <;> rfl), bq_⟩
      · replace c12 := Bool.eq_false_iff.mpr c12
        subst c12
        have H1 : (impl_EvalDiagram.l0 kj2 0 l1 (l1.length : Int) 0 a0_0 l0_1 a0_2) = some (r1, r2) := by rw [if_neg (show ¬ (false = true) by decide)] at H; exact H
        clear H
        have H := H1
        clear H1
        have H' := Aside0.mk H
        clear H
        go_wp2
        go_loopg [6, 21] kj2 (fun kq v6 v21 w' => ∃ (x6_2 : Int) (x21_2 : Int), v6 = .int .i64 x6_2 ∧ v21 = .int .i64 x21_2 ∧ Aside0 (impl_EvalDiagram.l0 kq x6_2 l1 (l1.length : Int) x21_2 a0_0 l0_1 a0_2 = some (r1, r2)) ∧ Aside0 (kq ≤ kj2) ∧ Aside0 (w'.heap[gb197]? = some (.cells #[.int .i64 a0_0, (.slice A0_1 l0_1.length c0_1), .int .i64 a0_2] 30 (0, 0))) ∧ Aside0 (Below w.heap.size w w'))
        case atStart => exact ⟨(0), (0), (by first | rfl | (simp; done) | (simp [*]; done)), (by first | rfl | (simp; done) | (simp [*]; done)), H', ⟨Nat.le_refl _⟩, ⟨bk_ BK197.out⟩, ⟨bq_⟩⟩
        case round =>
          clear H'
          try clear c1
          try clear p2
          try clear c4
          try clear c6
          try clear c12
          try clear hcz10_0
          try clear hcz10_1
          try clear hcz10_2
          try clear hcz7_0
          try clear hcz7_1
          try clear hcz7_2
          try clear hcz9_0
          try clear hcz9_1
          try clear hcz9_2
          try clear hfz10_0
          try clear hfz10_1
          try clear hfz10_2
          try clear hfz7_0
          try clear hfz7_1
          try clear hfz7_2
          try clear hfz9_0
          try clear hfz9_1
          try clear hfz9_2
          try clear p2
          obtain ⟨x6_2, x21_2, rfl, rfl, HA, HK2, BK197, HB⟩ := hrel
          cases gk with
          | zero => exact absurd HA.out (by simp [impl_EvalDiagram.l0])
          | succ k2 =>
            have H := HA.out
            clear HA
            simp only [impl_EvalDiagram.l0] at H
            by_cases c13 : x21_2 < (l1.length : Int)
            · rw [if_pos c13] at H
              have c13b0 : decide (x21_2 < (l1.length : Int)) = true := decide_eq_true c13
              clear c13
              by_cases c14 : 0 ≤ x21_2
              · rw [if_pos c14] at H
                have c14b0 : decide (0 ≤ x21_2) = true := decide_eq_true c14
                clear c14
                by_cases c15 : x21_2 < (l1.length : Int)
                · rw [if_pos c15] at H
                  have c15b0 : decide (x21_2 < (l1.length : Int)) = true := decide_eq_true c15
                  clear c15
                  obtain ⟨bq16, hbq16⟩ : ∃ b_ : Bool, b_ = (rdOf false l1 x21_2) := ⟨_, rfl⟩
                  replace H : (if bq16 = true then (impl_EvalDiagram.l0 k2 (Go.bits .or .i64 x6_2 (shl .i64 1 x21_2)) l1 (l1.length : Int) (wrap64 (x21_2 + 1)) a0_0 l0_1 a0_2) else (impl_EvalDiagram.l0 k2 x6_2 l1 (l1.length : Int) (wrap64 (x21_2 + 1)) a0_0 l0_1 a0_2)) = some (r1, r2) := by rw [← hbq16] at H; exact H
                  have Nbq16 := Aside0.mk hbq16
                  clear hbq16
                  by_cases c17 : bq16 = true
                  · subst c17
                    have H1 : (impl_EvalDiagram.l0 k2 (Go.bits .or .i64 x6_2 (shl .i64 1 x21_2)) l1 (l1.length : Int) (wrap64 (x21_2 + 1)) a0_0 l0_1 a0_2) = some (r1, r2) := by rw [if_pos rfl] at H; exact H
                    clear H
                    have H := H1
                    clear H1
                    have c18b0 := eq_true (of_decide_eq_true (by first | (with_reducible assumption) | assumption) : 0 ≤ x21_2)
                    obtain ⟨ji19, hji19⟩ : ∃ j_ : Int, (shl .i64 1 x21_2) = j_ := ⟨_, rfl⟩
                    replace H : (impl_EvalDiagram.l0 k2 (Go.bits .or .i64 x6_2 (ji19)) l1 (l1.length : Int) (wrap64 (x21_2 + 1)) a0_0 l0_1 a0_2) = some (r1, r2) := by first | (rw [hji19] at H; exact H) | (simp only [hji19] at H ⊢; exact H)
                    have hji19_ : (IntKind.i64.wrap (1 * 2 ^ min x21_2.toNat 64)) = ji19 := hji19
                    have hji19z : x21_2 ≤ 64 → (IntKind.i64.wrap (1 * 2 ^ x21_2.toNat)) = ji19 := shl_small hji19
                    have hji19u : (IntKind.i64.wrap (2 ^ min x21_2.toNat 64)) = ji19 := by have h_ := hji19_; rw [Int.one_mul] at h_; exact h_
                    have hji19v : x21_2 ≤ 64 → (IntKind.i64.wrap (2 ^ x21_2.toNat)) = ji19 := fun hle_ => by have h_ := hji19z hle_; rw [Int.one_mul] at h_; exact h_
                    have hji19y : (wrap64 (1 * 2 ^ min x21_2.toNat 64)) = ji19 := (i64_w _).symm.trans hji19_
                    have hji19x : x21_2 ≤ 64 → (wrap64 (1 * 2 ^ x21_2.toNat)) = ji19 := fun h_ => (i64_w _).symm.trans (hji19z h_)
                    have H' := Aside0.mk H
                    clear H
                    have p199 : 0 ≤ (x21_2 : Int) := of_decide_eq_true (by first | (with_reducible assumption) | assumption)
                    have q199 : x21_2 < (l1.length : Int) := of_decide_eq_true (by first | (with_reducible assumption) | assumption)
                    obtain ⟨ad199, e199, hx199_0⟩ := Kd.at_bool HR1.out x21_2 p199 q199
                    (try rw [← Nbq16.out] at hx199_0)
                    cases e199
                    replace hx199_0 := (HB.out.cell (World.block_lt_of_cell? w _ hx199_0)).trans hx199_0
                    replace p199 := eq_true p199
                    replace q199 := eq_true q199
                    go_wp2
                    go_roundg k2
                    case measure => have := HJ2.out; have := HK2.out; omega
                    case rel => exact ⟨(Go.bits .or .i64 x6_2 (ji19)), (wrap64 (x21_2 + 1)), (by first | rfl | (simp; done) | (simp only [← hji19] <;> (first | rfl | simp)) | (simp [*]; done)), (by first | rfl | (simp; done) | (simp [*]; done)), H', ⟨by have := HJ2.out; have := HK2.out; omega⟩, ⟨bk_ BK197.out⟩, ⟨bq_⟩⟩
                  · replace c17 := Bool.eq_false_iff.mpr c17
                    subst c17
                    have H1 : (impl_EvalDiagram.l0 k2 x6_2 l1 (l1.length : Int) (wrap64 (x21_2 + 1)) a0_0 l0_1 a0_2) = some (r1, r2) := by rw [if_neg (show ¬ (false = true) by decide)] at H; exact H
                    clear H
                    have H := H1
                    clear H1
                    have H' := Aside0.mk H
                    clear H
                    have p199 : 0 ≤ (x21_2 : Int) := of_decide_eq_true (by first | (with_reducible assumption) | assumption)
                    have q199 : x21_2 < (l1.length : Int) := of_decide_eq_true (by first | (with_reducible assumption) | assumption)
                    obtain ⟨ad199, e199, hx199_0⟩ := Kd.at_bool HR1.out x21_2 p199 q199
                    (try rw [← Nbq16.out] at hx199_0)
                    cases e199
                    replace hx199_0 := (HB.out.cell (World.block_lt_of_cell? w _ hx199_0)).trans hx199_0
                    replace p199 := eq_true p199
                    replace q199 := eq_true q199
                    go_wp2
                    go_roundg k2
                    case measure => have := HJ2.out; have := HK2.out; omega
                    case rel => exact ⟨(x6_2), (wrap64 (x21_2 + 1)), (by first | rfl | (simp; done) | (simp [*]; done)), (by first | rfl | (simp; done) | (simp [*]; done)), H', ⟨by have := HJ2.out; have := HK2.out; omega⟩, ⟨bk_ BK197.out⟩, ⟨bq_⟩⟩
                · rw [if_neg c15] at H
                  exact absurd H (by simp)
              · rw [if_neg c14] at H
                exact absurd H (by simp)
            · rw [if_neg c13] at H
              have c13b0 : decide (x21_2 < (l1.length : Int)) = false := decide_eq_false c13
              clear c13
              replace H := Option.bind_eq_some_iff.mp H
              obtain ⟨t200, A200, H⟩ := H
              replace H : (some (t200, true)) = some (r1, r2) := H
              have A20 := Aside0.mk A200
              clear A200
              simp only [Option.some.injEq, Prod.mk.injEq] at H
              obtain ⟨rfl, rfl⟩ := H
              have hcz21_0 := cq_ BK197.out 0 (.int .i64 a0_0)
              have hcz21_1 := cq_ BK197.out 1 (.slice A0_1 l0_1.length c0_1)
              have hcz21_2 := cq_ BK197.out 2 (.int .i64 a0_2)
              have hfz21_0 := blk_frozen BK197.out 0
              have hfz21_1 := blk_frozen BK197.out 1
              have hfz21_2 := blk_frozen BK197.out 2
              go_wp2_with (first | ((with_reducible refine gate_callee (f := 59) rfl ?_); refine goesL_ (some 34) rfl rfl Try.func59 (by kernel_rfl) rfl #[.agg #[.int .i64 a0_0, .slice A0_1 l0_1.length c0_1, .int .i64 a0_2], .int .i64 x6_2] rfl (by (try simp only [List.map_toArray, List.map_cons, List.map_nil]); first | done | rfl | (simp only [List.length_drop, List.length_take]; rfl)) ?_; (with_reducible refine (impl_Diagram_value.calls k2 a0_0 _ _ l0_1 a0_2 x6_2 t200 _ ?side1 ?side2 A20.out).mono ?_); (case side1 => repeat (first | exact (Kd.C_below HR0_1.out HB.out) | (with_reducible refine Kd.C_alloc ?_ _) | (with_reducible refine Kd.C_drewN ?_ _) | (with_reducible refine Kd.C_drew ?_))); (case side2 => exact HC0_1.out); rintro e w22 ⟨rfl, hb⟩; refine ⟨_, rfl, ?_⟩; have n0_ := Aside0.mk (blk_below (bk_ BK197.out) hb); have n1_ := Aside0.mk (below_step (bq_) hb); clear BK197; clear HB; have BK197 := n0_; have HB := n1_; clear n0_ n1_; (try clear hb); (try clear hb2); (try clear hk); (try clear hi)))
              go_ret2
              exact ⟨by first | rfl | (simp [errW_none, errW_some] <;> rfl) | (simp [*, errW_none, errW_some] <;> rfl), bq_⟩
def impl_TableOf.f (k : Nat) (a0_0 : Int) (l0_1 : List (S75)) (a0_2 : Int) : Option (List Bool × Bool) := (impl_GoodDiagram.f k a0_0 l0_1 a0_2).bind fun t202 => (if t202 = true then ((impl_Diagram_table.f k a0_0 l0_1 a0_2).bind fun t203 => (some (t203, true))) else (some (([] : List Bool), false)))
set_option maxHeartbeats 8000000 in
set_option maxRecDepth 100000 in
theorem impl_TableOf.calls (k : Nat) (a0_0 : Int) (A0_1 : Option Addr) (c0_1 : Nat) (l0_1 : List (S75)) (a0_2 : Int) (r1 : List Bool) (r2 : Bool) (w : World) (hr0_1 : Kd.C k75 w A0_1 l0_1.length l0_1) (hc0_1 : l0_1.length ≤ c0_1) (h : impl_TableOf.f k a0_0 l0_1 a0_2 = some (r1, r2)) :
    Calls Try.prog 22 #[.agg #[.int .i64 a0_0, .slice A0_1 l0_1.length c0_1, .int .i64 a0_2]] w fun e w' => ∃ v0_ : Value, e = .returned (.tuple #[v0_, .bool r2]) ∧ Kd.R Kd.bool 4 w' w.heap.size (fun _ => True) v0_ r1 ∧ Below w.heap.size w w' := by
  have hu30 := Try.underlying30
  have HR0_1 := Aside0.mk hr0_1
  have HC0_1 := Aside0.mk hc0_1
  clear hr0_1 hc0_1
  have HB := Aside0.mk (Below.refl w.heap.size w)
  have H : ((impl_GoodDiagram.f k a0_0 l0_1 a0_2).bind fun t202 => (if t202 = true then ((impl_Diagram_table.f k a0_0 l0_1 a0_2).bind fun t203 => (some (t203, true))) else (some (([] : List Bool), false)))) = some (r1, r2) := h
  clear h
  replace H := Option.bind_eq_some_iff.mp H
  obtain ⟨t202, A20, H⟩ := H
  replace H : (if t202 = true then ((impl_Diagram_table.f k a0_0 l0_1 a0_2).bind fun t203 => (some (t203, true))) else (some (([] : List Bool), false))) = some (r1, r2) := H
  have A2 := Aside0.mk A20
  clear A20
  by_cases c3 : t202 = true
  · subst c3
    have H1 : ((impl_Diagram_table.f k a0_0 l0_1 a0_2).bind fun t203 => (some (t203, true))) = some (r1, r2) := by rw [if_pos rfl] at H; exact H
    clear H
    have H := H1
    clear H1
    replace H := Option.bind_eq_some_iff.mp H
    obtain ⟨t203, A40, H⟩ := H
    replace H : (some (t203, true)) = some (r1, r2) := H
    have A4 := Aside0.mk A40
    clear A40
    simp only [Option.some.injEq, Prod.mk.injEq] at H
    obtain ⟨rfl, rfl⟩ := H
    go_enter Try.func22, Try.ntmps22
    go_wp2_with (first | ((with_reducible refine gate_dst (N := 1) rfl ?_); refine boxq_ (N := 1) (cs := #[.int .i64 a0_0, .slice A0_1 l0_1.length c0_1, .int .i64 a0_2]) (t := 30) ?_; intro gb201 hg w5 hbox hb; have n0_ := Aside0.mk (below_step (bq_) hb); have n1_ := Aside0.mk (hbox); have n2_ := Aside0.mk ((by rw [hg]; exact (below_size (bq_)) : w.heap.size ≤ gb201)); have n3_ := Aside0.mk ((by rw [hg]; exact (below_size (bq_)) : w.heap.size ≤ gb201)); clear HB; have HB := n0_; have BK201 := n1_; have GW201 := n2_; have GE201 := n3_; clear n0_ n1_ n2_ n3_; clear hb hbox hg; have hcz6_0 := cq_ BK201.out 0 (.int .i64 a0_0); have hcz6_1 := cq_ BK201.out 1 (.slice A0_1 l0_1.length c0_1); have hcz6_2 := cq_ BK201.out 2 (.int .i64 a0_2); have hfz6_0 := blk_frozen BK201.out 0; have hfz6_1 := blk_frozen BK201.out 1; have hfz6_2 := blk_frozen BK201.out 2) | ((with_reducible refine gate_callee (f := 44) rfl ?_); refine goesL_ (some 5) rfl rfl Try.func44 (by kernel_rfl) rfl #[.agg #[.int .i64 a0_0, .slice A0_1 l0_1.length c0_1, .int .i64 a0_2]] rfl (by (try simp only [List.map_toArray, List.map_cons, List.map_nil]); first | done | rfl | (simp only [List.length_drop, List.length_take]; rfl)) ?_; (with_reducible refine (impl_GoodDiagram.calls k a0_0 _ _ l0_1 a0_2 true _ ?side1 ?side2 A2.out).mono ?_); (case side1 => repeat (first | exact (Kd.C_below HR0_1.out HB.out) | (with_reducible refine Kd.C_alloc ?_ _) | (with_reducible refine Kd.C_drewN ?_ _) | (with_reducible refine Kd.C_drew ?_))); (case side2 => exact HC0_1.out); rintro e w7 ⟨rfl, hb⟩; refine ⟨_, rfl, ?_⟩; have n0_ := Aside0.mk (blk_below (bk_ BK201.out) hb); have n1_ := Aside0.mk (below_step (bq_) hb); clear BK201; clear HB; have BK201 := n0_; have HB := n1_; clear n0_ n1_; (try clear hb); (try clear hb2); (try clear hk); (try clear hi); have hcz8_0 := cq_ BK201.out 0 (.int .i64 a0_0); have hcz8_1 := cq_ BK201.out 1 (.slice A0_1 l0_1.length c0_1); have hcz8_2 := cq_ BK201.out 2 (.int .i64 a0_2); have hfz8_0 := blk_frozen BK201.out 0; have hfz8_1 := blk_frozen BK201.out 1; have hfz8_2 := blk_frozen BK201.out 2) | ((with_reducible refine gate_callee (f := 56) rfl ?_); refine goesL_ (some 8) rfl rfl Try.func56 (by kernel_rfl) rfl #[.agg #[.int .i64 a0_0, .slice A0_1 l0_1.length c0_1, .int .i64 a0_2]] rfl (by (try simp only [List.map_toArray, List.map_cons, List.map_nil]); first | done | rfl | (simp only [List.length_drop, List.length_take]; rfl)) ?_; (with_reducible refine (impl_Diagram_table.calls k a0_0 _ _ l0_1 a0_2 t203 _ ?side1 ?side2 A4.out).mono ?_); (case side1 => repeat (first | exact (Kd.C_below HR0_1.out HB.out) | (with_reducible refine Kd.C_alloc ?_ _) | (with_reducible refine Kd.C_drewN ?_ _) | (with_reducible refine Kd.C_drew ?_))); (case side2 => exact HC0_1.out); rintro e w9 ⟨v204, rfl, ho0, hb⟩; refine ⟨_, rfl, ?_⟩; have n0_ := Aside0.mk (Kd.R_lower ho0 (below_size (bq_))); have n1_ := Aside0.mk (blk_below (bk_ BK201.out) hb); have n2_ := Aside0.mk (below_step (bq_) hb); clear BK201; clear HB; have HO205 := n0_; have BK201 := n1_; have HB := n2_; clear n0_ n1_ n2_; (try clear hb); (try clear hb2); (try clear hk); (try clear hi); (try clear ho0)))
    go_ret2
    exact ⟨_, by first | rfl | (simp [errW_none, errW_some] <;> rfl) | (simp [*, errW_none, errW_some] <;> rfl), rq_ HO205.out, bq_⟩
  · replace c3 := Bool.eq_false_iff.mpr c3
    subst c3
    have H1 : (some (([] : List Bool), false)) = some (r1, r2) := by rw [if_neg (show ¬ (false = true) by decide)] at H; exact H
    clear H
    have H := H1
    clear H1
    simp only [Option.some.injEq, Prod.mk.injEq] at H
    obtain ⟨rfl, rfl⟩ := H
    go_enter Try.func22, Try.ntmps22
    go_wp2_with (first | ((with_reducible refine gate_dst (N := 1) rfl ?_); refine boxq_ (N := 1) (cs := #[.int .i64 a0_0, .slice A0_1 l0_1.length c0_1, .int .i64 a0_2]) (t := 30) ?_; intro gb201 hg w10 hbox hb; have n0_ := Aside0.mk (below_step (bq_) hb); have n1_ := Aside0.mk (hbox); have n2_ := Aside0.mk ((by rw [hg]; exact (below_size (bq_)) : w.heap.size ≤ gb201)); have n3_ := Aside0.mk ((by rw [hg]; exact (below_size (bq_)) : w.heap.size ≤ gb201)); clear HB; have HB := n0_; have BK201 := n1_; have GW201 := n2_; have GE201 := n3_; clear n0_ n1_ n2_ n3_; clear hb hbox hg; have hcz11_0 := cq_ BK201.out 0 (.int .i64 a0_0); have hcz11_1 := cq_ BK201.out 1 (.slice A0_1 l0_1.length c0_1); have hcz11_2 := cq_ BK201.out 2 (.int .i64 a0_2); have hfz11_0 := blk_frozen BK201.out 0; have hfz11_1 := blk_frozen BK201.out 1; have hfz11_2 := blk_frozen BK201.out 2) | ((with_reducible refine gate_callee (f := 44) rfl ?_); refine goesL_ (some 5) rfl rfl Try.func44 (by kernel_rfl) rfl #[.agg #[.int .i64 a0_0, .slice A0_1 l0_1.length c0_1, .int .i64 a0_2]] rfl (by (try simp only [List.map_toArray, List.map_cons, List.map_nil]); first | done | rfl | (simp only [List.length_drop, List.length_take]; rfl)) ?_; (with_reducible refine (impl_GoodDiagram.calls k a0_0 _ _ l0_1 a0_2 false _ ?side1 ?side2 A2.out).mono ?_); (case side1 => repeat (first | exact (Kd.C_below HR0_1.out HB.out) | (with_reducible refine Kd.C_alloc ?_ _) | (with_reducible refine Kd.C_drewN ?_ _) | (with_reducible refine Kd.C_drew ?_))); (case side2 => exact HC0_1.out); rintro e w12 ⟨rfl, hb⟩; refine ⟨_, rfl, ?_⟩; have n0_ := Aside0.mk (blk_below (bk_ BK201.out) hb); have n1_ := Aside0.mk (below_step (bq_) hb); clear BK201; clear HB; have BK201 := n0_; have HB := n1_; clear n0_ n1_; (try clear hb); (try clear hb2); (try clear hk); (try clear hi)))
    go_ret2
    exact ⟨_, by first | rfl | (simp [errW_none, errW_some] <;> rfl) | (simp [*, errW_none, errW_some] <;> rfl), by first | exact Kd.R_nil _ _ _ _ _ | exact Kd.N_nil _ _ _ _ _ | exact Kd.V_nil _ _ _ _ _ | exact Kd.Q_nil _ _ _ _ _ | exact Kd.S_nil _ _ _ _ _, bq_⟩
def impl_NotOf.pr (k : Nat) (a0 : Int) (q : List S75) (a2 : Int) (i : Int) : Option Bool := (impl_Diagram_value.f k a0 q a2 i).bind fun b => some (!b)
set_option maxHeartbeats 4000000 in
set_option maxRecDepth 100000 in
theorem impl_NotOf.pr_calls (k B0 : Nat) (A : Option Addr) (c : Nat) (a0 : Int) (q : List S75) (a2 : Int) (x : Int) (v : Bool) (w : World) (hB0 : w.heap[B0]? = some (.cells #[.int .i64 a0, .slice A q.length c, .int .i64 a2] 30 (0, 0))) (hr : Kd.C k75 w A q.length q) (hc : q.length ≤ c) (h : impl_NotOf.pr k a0 q a2 x = some v) :
    Calls Try.prog 64 #[.int .i64 x, .pointer (some ⟨B0, 0, none⟩)] w fun e w' => e = .returned (.bool v) ∧ Below w.heap.size w w' := by
  have hu30 := Try.underlying30
  have HR := Aside0.mk hr
  have HC := Aside0.mk hc
  have HB := Aside0.mk (Below.refl w.heap.size w)
  unfold impl_NotOf.pr at h
  obtain ⟨b, A10, h1⟩ := Option.bind_eq_some_iff.mp h
  have A1 := Aside0.mk A10
  clear A10 h hr hc
  obtain rfl := Option.some.inj h1
  clear h1
  have hcz0 : w.cell? ⟨B0, 0, none⟩ = some (.int .i64 a0) := (blk_cell hB0 0).trans rfl
  have hcz1 : w.cell? ⟨B0, 1, none⟩ = some (.slice A q.length c) := (blk_cell hB0 1).trans rfl
  have hcz2 : w.cell? ⟨B0, 2, none⟩ = some (.int .i64 a2) := (blk_cell hB0 2).trans rfl
  clear hB0
  go_enter Try.func64, Try.ntmps64
  go_wp2_with (have t_ := A1; go_at_call 59; refine (impl_Diagram_value.calls k a0 _ _ q a2 x b _ (by (with_reducible repeat (first | apply Kd.C_alloc | apply Kd.C_drewN | apply Kd.C_drew)); first | exact HR.out | exact Kd.C_below HR.out HB.out) HC.out A1.out).mono ?_; rintro e w3 ⟨rfl, hb⟩; have n0_ := Aside0.mk (below_step (bq_) hb); clear HB A1 t_; have HB := n0_; clear n0_ hb)
  go_ret
  exact ⟨by first | rfl | (simp; done) | (simp [*]; done), bq_⟩
def impl_NotOf.ml : Nat → (Int → Option Bool) → Int → List Bool → Int → Option (List Bool)
  | 0, _, _, _, _ => none
  | k + 1, p, N, out, i => if i < N then ((p i).bind fun t => (if out.length < 17592186044416 then impl_NotOf.ml k p N (out ++ [t]) (wrap64 (i + 1)) else none)) else some out
def impl_NotOf.mapf (k : Nat) (p : Int → Option Bool) (vars : Int) : Option (Int × List S75 × Int) := if 0 ≤ vars then ((impl_NotOf.ml k p (shl .i64 1 vars) [] 0).bind fun t => impl_diagram.f k vars t) else none
set_option maxHeartbeats 8000000 in
set_option maxRecDepth 100000 in
theorem impl_NotOf.map_calls (k : Nat) (B0 : Nat) (p : Int → Option Bool) (vars : Int) (r1 : Int) (r2 : List S75) (r3 : Int) (w : World)
    (hp : ∀ (W : World) (x : Int) (v : Bool), Below w.heap.size w W → p x = some v → Calls Try.prog 64 #[.int .i64 x, .pointer (some ⟨B0, 0, none⟩)] W fun e w' => e = .returned (.bool v) ∧ Below W.heap.size W w')
    (h : impl_NotOf.mapf k p vars = some (r1, r2, r3)) :
    Calls Try.prog 63 #[.int .i64 vars, .func (.func 64) #[] #[.pointer (some ⟨B0, 0, none⟩)]] w fun e w' => ∃ v1_ : Value, e = .returned (.agg #[.int .i64 r1, v1_, .int .i64 r3]) ∧ Kd.R k75 75 w' w.heap.size (fun _ => True) v1_ r2 ∧ Below w.heap.size w w' := by
  have hu30 := Try.underlying30
  have HP := Aside0.mk hp
  clear hp
  have HB := Aside0.mk (Below.refl w.heap.size w)
  unfold impl_NotOf.mapf at h
  by_cases c0 : 0 ≤ vars
  · rw [if_pos c0] at h
    have c0b := eq_true c0
    have c0d : decide (0 ≤ vars) = true := decide_eq_true c0
    clear c0
    obtain ⟨ji, hji⟩ : ∃ j_ : Int, (shl .i64 1 vars) = j_ := ⟨_, rfl⟩
    have hji_ : (IntKind.i64.wrap (1 * 2 ^ min vars.toNat 64)) = ji := hji
    have hjiz : vars ≤ 64 → (IntKind.i64.wrap (1 * 2 ^ vars.toNat)) = ji := shl_small hji
    have hjiu : (IntKind.i64.wrap (2 ^ min vars.toNat 64)) = ji := by have h_ := hji_; rw [Int.one_mul] at h_; exact h_
    have hjiv : vars ≤ 64 → (IntKind.i64.wrap (2 ^ vars.toNat)) = ji := fun hle_ => by have h_ := hjiz hle_; rw [Int.one_mul] at h_; exact h_
    have hjiy : (wrap64 (1 * 2 ^ min vars.toNat 64)) = ji := (i64_w _).symm.trans hji_
    have hjix : vars ≤ 64 → (wrap64 (1 * 2 ^ vars.toNat)) = ji := fun h_ => (i64_w _).symm.trans (hjiz h_)
    rw [hji] at h
    obtain ⟨tt, A10, h1⟩ := Option.bind_eq_some_iff.mp h
    have A1 := Aside0.mk A10
    have A2 := Aside0.mk h1
    clear A10 h h1
    have eg := fun args w => enters_ (P := Try.prog) Try.func64 (by kernel_rfl) rfl args w
    go_enter Try.func63, Try.ntmps63
    go_wp2_with ((with_reducible refine gate_dst (N := 4) rfl ?_); refine boxq_ (N := 4) (cs := #[.int .i64 0, .slice none 0 0, .int .i64 0]) (t := 30) ?_; intro g4 hg w3 hbox hb; have n0_ := Aside0.mk (below_step (bq_) hb); have GE4 := Aside0.mk ((by rw [hg]; exact (below_size (bq_))) : w.heap.size ≤ g4); clear HB; have HB := n0_; have BK4 := Aside0.mk hbox; clear n0_ hb hbox hg)
    go_loopg [5, 9] k (fun kq v5 v9 w' => ∃ (o : List Bool) (x : Int), v9 = .int .i64 x ∧ Aside0 (impl_NotOf.ml kq p ji o x = some tt) ∧ Aside0 (kq ≤ k) ∧ Aside0 (Kd.R Kd.bool 4 w' w.heap.size (fun _ => True) v5 o) ∧ Aside0 (w'.heap[g4]? = some (.cells #[.int .i64 0, .slice none 0 0, .int .i64 0] 30 (0, 0))) ∧ Aside0 (Below w.heap.size w w'))
    case atStart => exact ⟨[], (0), (by first | rfl | (simp; done) | (simp [*]; done)), A1, ⟨Nat.le_refl _⟩, ⟨Kd.R_nil _ _ _ _ _⟩, ⟨BK4.out⟩, ⟨bq_⟩⟩
    case round =>
      clear A1 HB BK4
      obtain ⟨o, x, rfl, HA, HK1, HO, BK4, HB⟩ := hrel
      cases gk with
      | zero => exact absurd HA.out (by simp [impl_NotOf.ml])
      | succ k1 =>
        have H := HA.out
        clear HA
        simp only [impl_NotOf.ml] at H
        by_cases c4 : x < ji
        · rw [if_pos c4] at H
          have c4b0 : decide (x < ji) = true := decide_eq_true c4
          clear c4
          obtain ⟨t, A70, H⟩ := Option.bind_eq_some_iff.mp H
          have A7 := Aside0.mk A70
          clear A70
          by_cases c12 : o.length < 17592186044416
          · rw [if_pos c12] at H
            have LMc12 := Aside0.mk c12
            clear c12
            have H' := Aside0.mk H
            clear H
            go_wp2_with (first | (go_at_call 64; refine (HP.out _ x t (bq_) A7.out).mono ?_; rintro e w6 ⟨rfl, hb⟩; have n0_ := Aside0.mk (below_step (bq_) hb); have n1_ := Aside0.mk (Kd.R_below (rq_ HO.out) hb); have n2_ := Aside0.mk (blk_below (bk_ BK4.out) hb); clear HB HO BK4; have HB := n0_; have HO := n1_; have BK4 := n2_; clear n0_ n1_ n2_ hb) | ((with_reducible refine gate_builtin (b := .append) (xs := #[.tmp 12, .tmp 16]) rfl ?_); at_builtin; refine Kd.R_append Kd.bool (w0 := w) w.heap.size rfl (.tmp 12) (.tmp 16) 34 4 (.bool false) 1 rfl Try.underlying34 info4 rfl (by decide) (by omega) u5 o t [.bool t] (fun _ => True) (fun _ => False) rfl rfl ?aP (fun _ hk => hk.elim) ?aF ?aO ?aB ?aS ?aL ?_; (case aP => exact rfl); (case aB => exact (bq_)); (case aF => exact (fun _ _ => trivial)); (case aO => exact (rq_ HO.out)); (case aS => exact (below_size (bq_))); (case aL => have := LMc12.out; omega); intro v121 w13 ho hb hg hat; have n2_ := Aside0.mk (blk_grown BK4.out hg (Kd.R_ne HO.out BK4.out (by decide))); have n0_ := Aside0.mk hb; have n1_ := Aside0.mk ho; clear HB HO BK4; have HB := n0_; have HO := n1_; have BK4 := n2_; clear n0_ n1_ n2_ ho hb hg hat))
            go_roundg k1
            case measure => have := HK1.out; omega
            case rel => exact ⟨_, (wrap64 (x + 1)), (by first | rfl | (simp; done) | (simp [*]; done)), H', ⟨by have := HK1.out; omega⟩, ⟨rq_ HO.out⟩, ⟨bk_ BK4.out⟩, ⟨bq_⟩⟩
          · rw [if_neg c12] at H
            exact absurd H (by simp)
        · rw [if_neg c4] at H
          have c4b0 : decide (x < ji) = false := decide_eq_false c4
          clear c4
          obtain rfl := Option.some.inj H
          clear H
          obtain ⟨At, ct, et⟩ := Kd.R_slice HO.out
          subst et
          go_wp2_with (go_at_call 84; refine (impl_diagram.calls k vars _ _ o r1 r2 r3 _ (by (with_reducible repeat (first | apply Kd.C_alloc | apply Kd.C_drewN | apply Kd.C_drew)); exact (Kd.R_reads' HO.out).2.2) (Kd.R_reads' HO.out).2.1 A2.out).mono ?_; rintro e w7 ⟨v1, rfl, ho, hb⟩; have NV := Aside0.mk (show v1.ownBlock ≠ some g4 from fun he => by have := Kd.R_base ho g4 he; have := blk_lt BK4.out; omega); have n0_ := Aside0.mk (blk_below BK4.out hb); have n1_ := Aside0.mk (Kd.R_lower ho (below_size (bq_))); have n2_ := Aside0.mk (below_step (bq_) hb); clear HB HO BK4; have BK4 := n0_; have HO := n1_; have HB := n2_; clear n0_ n1_ n2_ ho hb; obtain ⟨Ao, co, eo⟩ := Kd.R_slice HO.out; subst eo; have hcy0 := cq_ BK4.out 0 (.int .i64 0); have hcy1 := cq_ BK4.out 1 (.slice none 0 0); have hcy2 := cq_ BK4.out 2 (.int .i64 0); have hfy0 := blk_frozen BK4.out 0; have hfy1 := blk_frozen BK4.out 1; have hfy2 := blk_frozen BK4.out 2)
          refine bodyPost_ret (results_cell_row rfl _ _ g4 30 #[.int .i64 r1, (.slice Ao r2.length co), .int .i64 r3] (0, 0) _ rfl (blk_put (cs := #[.int .i64 r1, (.slice Ao r2.length co), .int .i64 0]) (cs' := #[.int .i64 r1, (.slice Ao r2.length co), .int .i64 r3]) (blk_put (cs := #[.int .i64 r1, .slice none 0 0, .int .i64 0]) (cs' := #[.int .i64 r1, (.slice Ao r2.length co), .int .i64 0]) (blk_put (cs := #[.int .i64 0, .slice none 0 0, .int .i64 0]) (cs' := #[.int .i64 r1, .slice none 0 0, .int .i64 0]) (BK4.out) 0 (.int .i64 r1) rfl) 1 ((.slice Ao r2.length co)) rfl) 2 (.int .i64 r3) rfl) Try.underlying30 rfl (by kernel_rfl)) rfl ?_
          exact ⟨_, by first | rfl | (simp; done) | (simp [*]; done), Kd.R_mono (Kd.R_far (p := ⟨g4, 2, none⟩) (Kd.R_far (p := ⟨g4, 1, none⟩) (Kd.R_far (p := ⟨g4, 0, none⟩) (impl_Diagram_build.flat (show Kd.R k75 75 w7 w.heap.size (fun _ => True) (.slice Ao r2.length co) r2 from HO.out) (ok' := fun k => k ≠ g4) (fun k hk _ => fun he => NV.out (by rw [hk, he]))) (fun k h => h) (.int .i64 r1)) (fun k h => h) ((.slice Ao r2.length co))) (fun k h => h) (.int .i64 r3)) (fun _ _ => trivial), below_set (j := 2) (v := (.int .i64 r3)) (below_set (j := 1) (v := ((.slice Ao r2.length co))) (below_set (j := 0) (v := (.int .i64 r1)) (HB.out) GE4.out) GE4.out) GE4.out⟩
  · rw [if_neg c0] at h
    exact absurd h (by simp)
def impl_NotOf.f (k : Nat) (a0 : Int) (l0 : List (S75)) (a2 : Int) : Option (Int × (List (S75)) × Int × Bool) := (impl_GoodDiagram.f k a0 l0 a2).bind fun g => if g = true then ((impl_NotOf.mapf k (impl_NotOf.pr k a0 l0 a2) a0).bind fun x => some (x.1, x.2.1, x.2.2, true)) else some (0, ([] : List (S75)), 0, false)
set_option maxHeartbeats 8000000 in
set_option maxRecDepth 100000 in
theorem impl_NotOf.calls (k : Nat) (a0 : Int) (A0 : Option Addr) (c0 : Nat) (l0 : List (S75)) (a2 : Int) (r1 : Int) (r2 : List (S75)) (r3 : Int) (r4 : Bool) (w : World) (hr0 : Kd.C k75 w A0 l0.length l0) (hc0 : l0.length ≤ c0) (h : impl_NotOf.f k a0 l0 a2 = some (r1, r2, r3, r4)) :
    Calls Try.prog 27 #[.agg #[.int .i64 a0, .slice A0 l0.length c0, .int .i64 a2]] w fun e w' => ∃ v1_ : Value, e = .returned (.tuple #[.agg #[.int .i64 r1, v1_, .int .i64 r3], .bool r4]) ∧ Kd.R k75 75 w' w.heap.size (fun _ => True) v1_ r2 ∧ Below w.heap.size w w' := by
  have hu30 := Try.underlying30
  have HR0 := Aside0.mk hr0
  have HC0 := Aside0.mk hc0
  have HB := Aside0.mk (Below.refl w.heap.size w)
  obtain ⟨g, A10, h1⟩ := Option.bind_eq_some_iff.mp h
  have AG := Aside0.mk A10
  clear hr0 hc0 A10 h
  by_cases c8 : g = true
  · subst c8
    rw [if_pos rfl] at h1
    obtain ⟨⟨x1, x2, x3⟩, A10, h2⟩ := Option.bind_eq_some_iff.mp h1
    have AM := Aside0.mk A10
    clear A10 h1
    simp only [Option.some.injEq, Prod.mk.injEq] at h2
    obtain ⟨rfl, rfl, rfl, rfl⟩ := h2
    go_enter Try.func27, Try.ntmps27
    go_wp2_with (first | ((with_reducible refine gate_dst (N := 1) rfl ?_); refine boxq_ (N := 1) (cs := #[.int .i64 a0, .slice A0 l0.length c0, .int .i64 a2]) (t := 30) ?_; intro g1 hg w1 hbox hb; have GEg1 := Aside0.mk ((by rw [hg]; exact (below_size (bq_))) : w.heap.size ≤ g1); have n0_ := Aside0.mk (below_step (bq_) hb); clear HB; have HB := n0_; have BK1 := Aside0.mk hbox; clear n0_ hb hbox hg) | ((with_reducible refine gate_dst (N := 2) rfl ?_); refine boxq_ (N := 2) (cs := #[.int .i64 0, .slice none 0 0, .int .i64 0]) (t := 30) ?_; intro g2 hg w2 hbox hb; have GEg2 := Aside0.mk ((by rw [hg]; exact (below_size (bq_))) : w.heap.size ≤ g2); have NEg1g2 := Aside0.mk ((by rw [hg]; exact Nat.ne_of_lt (blk_lt BK1.out)) : g1 ≠ g2); have mBK1_ := Aside0.mk (blk_below BK1.out hb); have n0_ := Aside0.mk (below_step (bq_) hb); clear HB BK1; have HB := n0_; have BK1 := mBK1_; clear mBK1_; have BR := Aside0.mk hbox; clear n0_ hb hbox hg; have hcz0 := cq_ BK1.out 0 (.int .i64 a0); have hcz1 := cq_ BK1.out 1 (.slice A0 l0.length c0); have hcz2 := cq_ BK1.out 2 (.int .i64 a2); have hcy0 := cq_ BR.out 0 (.int .i64 0); have hcy1 := cq_ BR.out 1 (.slice none 0 0); have hcy2 := cq_ BR.out 2 (.int .i64 0); have hfy0 := blk_frozen BR.out 0; have hfy1 := blk_frozen BR.out 1; have hfy2 := blk_frozen BR.out 2; have hnb := NEg1g2.out; have hnc := Ne.symm NEg1g2.out) | (have t_ := AG; go_at_call 44; refine (impl_GoodDiagram.calls k a0 _ _ l0 a2 true _ (by (with_reducible repeat (first | apply Kd.C_alloc | apply Kd.C_drewN | apply Kd.C_drew)); exact Kd.C_below HR0.out (bq_)) HC0.out AG.out).mono ?_; rintro e w3 ⟨rfl, hb⟩; have mBK1_ := Aside0.mk (blk_below (bk_ BK1.out) hb); have mBR_ := Aside0.mk (blk_below (bk_ BR.out) hb); have n0_ := Aside0.mk (below_step (bq_) hb); clear HB BK1 BR; have HB := n0_; have BK1 := mBK1_; clear mBK1_; have BR := mBR_; clear mBR_; clear n0_ hb; clear AG t_; clear hcz0 hcz1 hcz2 hcy0 hcy1 hcy2 hfy0 hfy1 hfy2; have hcz0 := cq_ BK1.out 0 (.int .i64 a0); have hcz1 := cq_ BK1.out 1 (.slice A0 l0.length c0); have hcz2 := cq_ BK1.out 2 (.int .i64 a2); have hcy0 := cq_ BR.out 0 (.int .i64 0); have hcy1 := cq_ BR.out 1 (.slice none 0 0); have hcy2 := cq_ BR.out 2 (.int .i64 0); have hfy0 := blk_frozen BR.out 0; have hfy1 := blk_frozen BR.out 1; have hfy2 := blk_frozen BR.out 2) | (go_at_call 63; refine (impl_NotOf.map_calls k g1 (impl_NotOf.pr k a0 l0 a2) a0 x1 x2 x3 _ (fun W x v hbW hv => impl_NotOf.pr_calls k g1 A0 c0 a0 l0 a2 x v W (blk_below BK1.out hbW) (Kd.C_below (Kd.C_below HR0.out HB.out) hbW) HC0.out hv) AM.out).mono ?_; rintro e w7 ⟨v1, rfl, ho, hb⟩; have NV := Aside0.mk (show v1.ownBlock ≠ some g2 from fun he => by have := Kd.R_base ho g2 he; have := blk_lt (show w3.heap[g2]? = _ from bk_ BR.out); omega); have n0_ := Aside0.mk (blk_below (bk_ BR.out) hb); have n1_ := Aside0.mk (Kd.R_lower ho (below_size (bq_))); have n2_ := Aside0.mk (below_step (bq_) hb); clear HB BR; have BR := n0_; have HO := n1_; have HB := n2_; clear n0_ n1_ n2_ ho hb; obtain ⟨Ao, co, eo⟩ := Kd.R_slice HO.out; subst eo; clear hcy0 hcy1 hcy2 hfy0 hfy1 hfy2; have hcy0 := cq_ BR.out 0 (.int .i64 0); have hcy1 := cq_ BR.out 1 (.slice none 0 0); have hcy2 := cq_ BR.out 2 (.int .i64 0); have hfy0 := blk_frozen BR.out 0; have hfy1 := blk_frozen BR.out 1; have hfy2 := blk_frozen BR.out 2))
    refine bodyPost_ret (results_ct rfl _ _ g2 30 #[.int .i64 x1, (.slice Ao x2.length co), .int .i64 x3] (0, 0) _ rfl (blk_put (cs := #[.int .i64 x1, (.slice Ao x2.length co), .int .i64 0]) (cs' := #[.int .i64 x1, (.slice Ao x2.length co), .int .i64 x3]) (blk_put (cs := #[.int .i64 x1, .slice none 0 0, .int .i64 0]) (cs' := #[.int .i64 x1, (.slice Ao x2.length co), .int .i64 0]) (blk_put (cs := #[.int .i64 0, .slice none 0 0, .int .i64 0]) (cs' := #[.int .i64 x1, .slice none 0 0, .int .i64 0]) (BR.out) 0 (.int .i64 x1) rfl) 1 ((.slice Ao x2.length co)) rfl) 2 (.int .i64 x3) rfl) Try.underlying30 rfl (by kernel_rfl)) rfl ?_
    exact ⟨_, by first | rfl | (simp; done) | (simp [*]; done), Kd.R_mono (Kd.R_far (p := ⟨g2, 2, none⟩) (Kd.R_far (p := ⟨g2, 1, none⟩) (Kd.R_far (p := ⟨g2, 0, none⟩) (impl_Diagram_build.flat (show Kd.R k75 75 w7 w.heap.size (fun _ => True) (.slice Ao x2.length co) x2 from HO.out) (ok' := fun k => k ≠ g2) (fun k hk _ => fun he => NV.out (by rw [hk, he]))) (fun k h => h) (.int .i64 x1)) (fun k h => h) ((.slice Ao x2.length co))) (fun k h => h) (.int .i64 x3)) (fun _ _ => trivial), below_set (j := 2) (v := (.int .i64 x3)) (below_set (j := 1) (v := ((.slice Ao x2.length co))) (below_set (j := 0) (v := (.int .i64 x1)) (HB.out) GEg2.out) GEg2.out) GEg2.out⟩
  · replace c8 := Bool.eq_false_iff.mpr c8
    subst c8
    rw [if_neg (by simp)] at h1
    simp only [Option.some.injEq, Prod.mk.injEq] at h1
    obtain ⟨rfl, rfl, rfl, rfl⟩ := h1
    go_enter Try.func27, Try.ntmps27
    go_wp2_with (first | ((with_reducible refine gate_dst (N := 1) rfl ?_); refine boxq_ (N := 1) (cs := #[.int .i64 a0, .slice A0 l0.length c0, .int .i64 a2]) (t := 30) ?_; intro g1 hg w1 hbox hb; have GEg1 := Aside0.mk ((by rw [hg]; exact (below_size (bq_))) : w.heap.size ≤ g1); have n0_ := Aside0.mk (below_step (bq_) hb); clear HB; have HB := n0_; have BK1 := Aside0.mk hbox; clear n0_ hb hbox hg) | ((with_reducible refine gate_dst (N := 2) rfl ?_); refine boxq_ (N := 2) (cs := #[.int .i64 0, .slice none 0 0, .int .i64 0]) (t := 30) ?_; intro g2 hg w2 hbox hb; have GEg2 := Aside0.mk ((by rw [hg]; exact (below_size (bq_))) : w.heap.size ≤ g2); have NEg1g2 := Aside0.mk ((by rw [hg]; exact Nat.ne_of_lt (blk_lt BK1.out)) : g1 ≠ g2); have mBK1_ := Aside0.mk (blk_below BK1.out hb); have n0_ := Aside0.mk (below_step (bq_) hb); clear HB BK1; have HB := n0_; have BK1 := mBK1_; clear mBK1_; have BR := Aside0.mk hbox; clear n0_ hb hbox hg; have hcz0 := cq_ BK1.out 0 (.int .i64 a0); have hcz1 := cq_ BK1.out 1 (.slice A0 l0.length c0); have hcz2 := cq_ BK1.out 2 (.int .i64 a2); have hcy0 := cq_ BR.out 0 (.int .i64 0); have hcy1 := cq_ BR.out 1 (.slice none 0 0); have hcy2 := cq_ BR.out 2 (.int .i64 0); have hfy0 := blk_frozen BR.out 0; have hfy1 := blk_frozen BR.out 1; have hfy2 := blk_frozen BR.out 2; have hnb := NEg1g2.out; have hnc := Ne.symm NEg1g2.out) | (have t_ := AG; go_at_call 44; refine (impl_GoodDiagram.calls k a0 _ _ l0 a2 false _ (by (with_reducible repeat (first | apply Kd.C_alloc | apply Kd.C_drewN | apply Kd.C_drew)); exact Kd.C_below HR0.out (bq_)) HC0.out AG.out).mono ?_; rintro e w3 ⟨rfl, hb⟩; have mBK1_ := Aside0.mk (blk_below (bk_ BK1.out) hb); have mBR_ := Aside0.mk (blk_below (bk_ BR.out) hb); have n0_ := Aside0.mk (below_step (bq_) hb); clear HB BK1 BR; have HB := n0_; have BK1 := mBK1_; clear mBK1_; have BR := mBR_; clear mBR_; clear n0_ hb; clear AG t_; clear hcz0 hcz1 hcz2 hcy0 hcy1 hcy2 hfy0 hfy1 hfy2; have hcz0 := cq_ BK1.out 0 (.int .i64 a0); have hcz1 := cq_ BK1.out 1 (.slice A0 l0.length c0); have hcz2 := cq_ BK1.out 2 (.int .i64 a2); have hcy0 := cq_ BR.out 0 (.int .i64 0); have hcy1 := cq_ BR.out 1 (.slice none 0 0); have hcy2 := cq_ BR.out 2 (.int .i64 0); have hfy0 := blk_frozen BR.out 0; have hfy1 := blk_frozen BR.out 1; have hfy2 := blk_frozen BR.out 2))
    refine bodyPost_ret (results_ct rfl _ _ g2 30 #[.int .i64 0, .slice none 0 0, .int .i64 0] (0, 0) _ rfl (blk_put (cs := #[.int .i64 0, .slice none 0 0, .int .i64 0]) (cs' := #[.int .i64 0, .slice none 0 0, .int .i64 0]) (blk_put (cs := #[.int .i64 0, .slice none 0 0, .int .i64 0]) (cs' := #[.int .i64 0, .slice none 0 0, .int .i64 0]) (blk_put (cs := #[.int .i64 0, .slice none 0 0, .int .i64 0]) (cs' := #[.int .i64 0, .slice none 0 0, .int .i64 0]) ((bk_ BR.out)) 0 (.int .i64 0) rfl) 1 (.slice none 0 0) rfl) 2 (.int .i64 0) rfl) Try.underlying30 rfl (by kernel_rfl)) rfl ?_
    exact ⟨_, by first | rfl | (simp; done) | (simp [*]; done), Kd.R_nil _ _ _ _ _, below_set (j := 2) (v := (.int .i64 0)) (below_set (j := 1) (v := (.slice none 0 0)) (below_set (j := 0) (v := (.int .i64 0)) ((bq_)) GEg2.out) GEg2.out) GEg2.out⟩
end Go.Proofs.Ytpndhlcbfobelaa.PDD
