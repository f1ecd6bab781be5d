import Derived.Test.YtcmhkgpalfljbaaPICx0
import Derived.Test.YtcmhkgpalfljbaaPICx3
import Derived.Test.YtcmhkgpalfljbaaPICx4
namespace Go.Proofs.Ytcmhkgpalfljbaa.PIC
open Go.RowKit Go.Proofs.YtcmhkgpalfljbaaW.PrintWords Go.Proofs.YtcmhkgpalfljbaaW.PrintLast Go.Proofs.YtcmhkgpalfljbaaW.PrintMore
attribute [local go_sem] max2_int min2_int max_two min_two max_three min_three max_four min_four   -- for this text's walks alone
set_option linter.unusedVariables false
set_option linter.unusedSimpArgs false
mutual
def impl_GoodProgram.j0 : Nat → List (S51) → Bool → Option (Bool)
  | 0, _, _ => none
  | k + 1, x0, x18 => if x18 = true then (some false) else (impl_GoodProgram.l0 k x0 x0 (x0.length : Int) 0)
def impl_GoodProgram.l0 : Nat → List (S51) → List (S51) → Int → Int → Option (Bool)
  | 0, _, _, _, _ => none
  | k + 1, x0, x19, x20, x21 => if x21 < x20 then (if 0 ≤ x21 then (if x21 < (x19.length : Int) then ((impl_Step_valid.f k ((rd_T51 x19 x21).f0) ((rd_T51 x19 x21).f1) ((rd_T51 x19 x21).f2) ((rd_T51 x19 x21).f3) ((rd_T51 x19 x21).f4) ((rd_T51 x19 x21).f5)).bind fun t160 => (if t160 = true then ((impl_Step_jumps.f ((rd_T51 x19 x21).f0) ((rd_T51 x19 x21).f1) ((rd_T51 x19 x21).f2) ((rd_T51 x19 x21).f3) ((rd_T51 x19 x21).f4) ((rd_T51 x19 x21).f5)).bind fun t161 => (if t161 = true then (if (wrap64 ((wrap64 (x21 + ((rd_T51 x19 x21).f5))) + 1)) ≥ (x0.length : Int) then (some false) else (impl_GoodProgram.l0 k x0 x19 x20 (wrap64 (x21 + 1)))) else (impl_GoodProgram.l0 k x0 x19 x20 (wrap64 (x21 + 1))))) else (some false))) else (none)) else (none)) else (some true)
end
def impl_GoodProgram.f (k : Nat) (l0 : List (S51)) : Option (Bool) := (impl_in.f (l0.length : Int) 1 20).bind fun t156 => (if t156 = true then (if 0 ≤ (wrap64 ((l0.length : Int) - 1)) then (if (wrap64 ((l0.length : Int) - 1)) < (l0.length : Int) then (impl_GoodProgram.j0 k l0 (((rd_T51 l0 (wrap64 ((l0.length : Int) - 1))).f0) != 11)) else (none)) else (none)) else (impl_GoodProgram.j0 k l0 true))
set_option maxHeartbeats 8000000 in
set_option maxRecDepth 100000 in
theorem impl_GoodProgram.calls (k : Nat) (A0 : Option Addr) (c0 : Nat) (l0 : List (S51)) (r : Bool) (w : World) (hr0 : Kd.C k51 w A0 l0.length l0) (hc0 : l0.length ≤ c0) (h : impl_GoodProgram.f k l0 = some r) :
    Calls Try.prog 49 #[.slice A0 l0.length c0] w fun e w' => e = .returned (.bool r) ∧ Below w.heap.size w w' := by
  have hu51 := Try.underlying51
  have HR0 := Aside0.mk hr0
  have HC0 := Aside0.mk hc0
  clear hr0 hc0
  have HB := Aside0.mk (Below.refl w.heap.size w)
  have H : ((impl_in.f (l0.length : Int) 1 20).bind fun t156 => (if t156 = true then (if 0 ≤ (wrap64 ((l0.length : Int) - 1)) then (if (wrap64 ((l0.length : Int) - 1)) < (l0.length : Int) then (impl_GoodProgram.j0 k l0 (((rd_T51 l0 (wrap64 ((l0.length : Int) - 1))).f0) != 11)) else (none)) else (none)) else (impl_GoodProgram.j0 k l0 true))) = some r := h
  clear h
  have HC2 := Aside0.mk H
  clear H
  go_enter Try.func49, Try.ntmps49
  go_upto_region 1 with (fail)
  go_cut [18] (fun v18 wc => ∃ (kq : Nat) (x18_1 : Bool), v18 = .bool x18_1 ∧ Aside0 (impl_GoodProgram.j0 kq l0 x18_1 = some r) ∧ Aside0 (kq ≤ k) ∧ Aside0 (Below w.heap.size w wc))
  case first =>
    have H := HC2.out
    clear HC2
    replace H := Option.bind_eq_some_iff.mp H
    obtain ⟨t156, A30, H⟩ := H
    replace H : (if t156 = true then (if 0 ≤ (wrap64 ((l0.length : Int) - 1)) then (if (wrap64 ((l0.length : Int) - 1)) < (l0.length : Int) then (impl_GoodProgram.j0 k l0 (((rd_T51 l0 (wrap64 ((l0.length : Int) - 1))).f0) != 11)) else (none)) else (none)) else (impl_GoodProgram.j0 k l0 true)) = some r := H
    have A3 := Aside0.mk A30
    clear A30
    by_cases c4 : t156 = true
    · subst c4
      have H1 : (if 0 ≤ (wrap64 ((l0.length : Int) - 1)) then (if (wrap64 ((l0.length : Int) - 1)) < (l0.length : Int) then (impl_GoodProgram.j0 k l0 (((rd_T51 l0 (wrap64 ((l0.length : Int) - 1))).f0) != 11)) else (none)) else (none)) = some r := by rw [if_pos rfl] at H; exact H
      clear H
      have H := H1
      clear H1
      obtain ⟨ji5, hji5⟩ : ∃ j_ : Int, (wrap64 ((l0.length : Int) - 1)) = j_ := ⟨_, rfl⟩
      replace H : (if 0 ≤ (ji5) then (if (ji5) < (l0.length : Int) then (impl_GoodProgram.j0 k l0 (((rd_T51 l0 (ji5)).f0) != 11)) else (none)) else (none)) = some r := by first | (rw [hji5] at H; exact H) | (simp only [hji5] at H ⊢; exact H)
      (try rw [hji5] at A3)
      have hji5w : (IntKind.i64.wrap ((l0.length : Int) - 1)) = ji5 := (i64_w _).trans hji5
      by_cases c6 : 0 ≤ (ji5)
      · rw [if_pos c6] at H
        have c6b0 : decide (0 ≤ (ji5)) = true := decide_eq_true c6
        clear c6
        (first | rw [c6b0] | (simp only [i64_w, i32_w]; rw [c6b0]) | skip)
        by_cases c7 : (ji5) < (l0.length : Int)
        · rw [if_pos c7] at H
          have c7b0 : decide ((ji5) < (l0.length : Int)) = true := decide_eq_true c7
          clear c7
          have H' := Aside0.mk H
          clear H
          go_wp2_with (first | ((with_reducible refine gate_callee (f := 70) rfl ?_); refine goesL_ (some 7) rfl rfl Try.func70 (by kernel_rfl) rfl #[.int .i64 (l0.length : Int), .int .i64 1, .int .i64 20] rfl (by (try simp only [List.map_toArray, List.map_cons, List.map_nil]); first | done | rfl | (simp only [List.length_drop, List.length_take]; rfl)) ?_; (with_reducible refine (impl_in.calls (l0.length : Int) 1 20 true _ A3.out).mono ?_); rintro e w' ⟨rfl, ⟨nd, rfl⟩⟩; refine ⟨_, rfl, ?_⟩; have p157 : 0 ≤ ((ji5) : Int) := of_decide_eq_true (by first | (with_reducible assumption) | assumption); have q157 : (ji5) < (l0.length : Int) := of_decide_eq_true (by first | (with_reducible assumption) | assumption); obtain ⟨ad157, e157, hx157_0, hx157_1, hx157_2, hx157_3, hx157_4, hx157_5⟩ := at_T51 HR0.out (ji5) p157 q157; cases e157; replace hx157_0 := (HB.out.cell (World.block_lt_of_cell? w _ hx157_0)).trans hx157_0; replace hx157_1 := (HB.out.cell (World.block_lt_of_cell? w _ hx157_1)).trans hx157_1; replace hx157_2 := (HB.out.cell (World.block_lt_of_cell? w _ hx157_2)).trans hx157_2; replace hx157_3 := (HB.out.cell (World.block_lt_of_cell? w _ hx157_3)).trans hx157_3; replace hx157_4 := (HB.out.cell (World.block_lt_of_cell? w _ hx157_4)).trans hx157_4; replace hx157_5 := (HB.out.cell (World.block_lt_of_cell? w _ hx157_5)).trans hx157_5; replace p157 := eq_true p157; replace q157 := eq_true q157))
          go_meet
          case rel => exact ⟨_, ((((rd_T51 l0 (ji5)).f0) != 11)), (by first | rfl | (simp; done) | (simp only [← hji5] <;> (first | rfl | simp)) | (simp [*]; done)), H', ⟨by first | omega | exact Nat.le_refl _⟩, ⟨bq_⟩⟩
        · rw [if_neg c7] at H
          exact absurd H (by simp)
      · rw [if_neg c6] at H
        exact absurd H (by simp)
    · replace c4 := Bool.eq_false_iff.mpr c4
      subst c4
      have H1 : (impl_GoodProgram.j0 k l0 true) = some r := by rw [if_neg (show ¬ (false = true) by decide)] at H; exact H
      clear H
      have H := H1
      clear H1
      have H' := Aside0.mk H
      clear H
      go_wp2_with (first | ((with_reducible refine gate_callee (f := 70) rfl ?_); refine goesL_ (some 7) rfl rfl Try.func70 (by kernel_rfl) rfl #[.int .i64 (l0.length : Int), .int .i64 1, .int .i64 20] rfl (by (try simp only [List.map_toArray, List.map_cons, List.map_nil]); first | done | rfl | (simp only [List.length_drop, List.length_take]; rfl)) ?_; (with_reducible refine (impl_in.calls (l0.length : Int) 1 20 false _ A3.out).mono ?_); rintro e w' ⟨rfl, ⟨nd, rfl⟩⟩; refine ⟨_, rfl, ?_⟩))
      go_meet
      case rel => exact ⟨_, (true), (by first | rfl | (simp; done) | (simp [*]; done)), H', ⟨by first | omega | exact Nat.le_refl _⟩, ⟨bq_⟩⟩
  case rest =>
    clear HC2
    try clear p1
    try clear q1
    try clear hx1
    try clear p2
    try clear c4
    try clear c6
    try clear c6b0
    try clear p6
    try clear c7
    try clear c7b0
    try clear hx157_0
    try clear hx157_1
    try clear hx157_2
    try clear hx157_3
    try clear hx157_4
    try clear hx157_5
    try clear p157
    try clear q157
    obtain ⟨kq, x18_1, rfl, HA, HJ1, HB⟩ := hcut
    cases kq with
    | zero => exact absurd HA.out (by simp [impl_GoodProgram.j0])
    | succ kj1 =>
      have H := HA.out
      clear HA
      simp only [impl_GoodProgram.j0] at H
      by_cases c8 : x18_1 = true
      · subst c8
        have H1 : (some false) = some r := by rw [if_pos rfl] at H; exact H
        clear H
        have H := H1
        clear H1
        obtain rfl := Option.some.inj H
        go_wp2
        go_ret
        exact ⟨by first | rfl | (simp [errW_none, errW_some] <;> rfl) | (simp [*, errW_none, errW_some] <;> rfl), bq_⟩
      · replace c8 := Bool.eq_false_iff.mpr c8
        subst c8
        have H1 : (impl_GoodProgram.l0 kj1 l0 l0 (l0.length : Int) 0) = some r := by rw [if_neg (show ¬ (false = true) by decide)] at H; exact H
        clear H
        have H := H1
        clear H1
        have H' := Aside0.mk H
        clear H
        go_wp2
        go_loopg [21] kj1 (fun kq v21 w' => ∃ (x21_2 : Int), v21 = .int .i64 x21_2 ∧ Aside0 (impl_GoodProgram.l0 kq l0 l0 (l0.length : Int) x21_2 = some r) ∧ Aside0 (kq ≤ kj1) ∧ Aside0 (Below w.heap.size w w'))
        case atStart => exact ⟨(0), (by first | rfl | (simp; done) | (simp [*]; done)), H', ⟨Nat.le_refl _⟩, ⟨bq_⟩⟩
        case round =>
          clear H'
          try clear p1
          try clear q1
          try clear hx1
          try clear p2
          try clear c4
          try clear c6
          try clear c6b0
          try clear p6
          try clear c7
          try clear c7b0
          try clear c8
          try clear hx157_0
          try clear hx157_1
          try clear hx157_2
          try clear hx157_3
          try clear hx157_4
          try clear hx157_5
          try clear p1
          try clear p157
          try clear p2
          try clear p6
          try clear q1
          try clear q157
          obtain ⟨x21_2, rfl, HA, HK2, HB⟩ := hrel
          cases gk with
          | zero => exact absurd HA.out (by simp [impl_GoodProgram.l0])
          | succ k2 =>
            have H := HA.out
            clear HA
            simp only [impl_GoodProgram.l0] at H
            by_cases c9 : x21_2 < (l0.length : Int)
            · rw [if_pos c9] at H
              have c9b0 : decide (x21_2 < (l0.length : Int)) = true := decide_eq_true c9
              clear c9
              by_cases c10 : 0 ≤ x21_2
              · rw [if_pos c10] at H
                have c10b0 : decide (0 ≤ x21_2) = true := decide_eq_true c10
                clear c10
                by_cases c11 : x21_2 < (l0.length : Int)
                · rw [if_pos c11] at H
                  have c11b0 : decide (x21_2 < (l0.length : Int)) = true := decide_eq_true c11
                  clear c11
                  replace H := Option.bind_eq_some_iff.mp H
                  obtain ⟨t160, A120, H⟩ := H
                  replace H : (if t160 = true then ((impl_Step_jumps.f ((rd_T51 l0 x21_2).f0) ((rd_T51 l0 x21_2).f1) ((rd_T51 l0 x21_2).f2) ((rd_T51 l0 x21_2).f3) ((rd_T51 l0 x21_2).f4) ((rd_T51 l0 x21_2).f5)).bind fun t161 => (if t161 = true then (if (wrap64 ((wrap64 (x21_2 + ((rd_T51 l0 x21_2).f5))) + 1)) ≥ (l0.length : Int) then (some false) else (impl_GoodProgram.l0 k2 l0 l0 (l0.length : Int) (wrap64 (x21_2 + 1)))) else (impl_GoodProgram.l0 k2 l0 l0 (l0.length : Int) (wrap64 (x21_2 + 1))))) else (some false)) = some r := H
                  have A12 := Aside0.mk A120
                  clear A120
                  by_cases c13 : t160 = true
                  · subst c13
                    have H1 : ((impl_Step_jumps.f ((rd_T51 l0 x21_2).f0) ((rd_T51 l0 x21_2).f1) ((rd_T51 l0 x21_2).f2) ((rd_T51 l0 x21_2).f3) ((rd_T51 l0 x21_2).f4) ((rd_T51 l0 x21_2).f5)).bind fun t161 => (if t161 = true then (if (wrap64 ((wrap64 (x21_2 + ((rd_T51 l0 x21_2).f5))) + 1)) ≥ (l0.length : Int) then (some false) else (impl_GoodProgram.l0 k2 l0 l0 (l0.length : Int) (wrap64 (x21_2 + 1)))) else (impl_GoodProgram.l0 k2 l0 l0 (l0.length : Int) (wrap64 (x21_2 + 1))))) = some r := by rw [if_pos rfl] at H; exact H
                    clear H
                    have H := H1
                    clear H1
                    replace H := Option.bind_eq_some_iff.mp H
                    obtain ⟨t161, A140, H⟩ := H
                    replace H : (if t161 = true then (if (wrap64 ((wrap64 (x21_2 + ((rd_T51 l0 x21_2).f5))) + 1)) ≥ (l0.length : Int) then (some false) else (impl_GoodProgram.l0 k2 l0 l0 (l0.length : Int) (wrap64 (x21_2 + 1)))) else (impl_GoodProgram.l0 k2 l0 l0 (l0.length : Int) (wrap64 (x21_2 + 1)))) = some r := H
                    have A14 := Aside0.mk A140
                    clear A140
                    by_cases c15 : t161 = true
                    · subst c15
                      have H1 : (if (wrap64 ((wrap64 (x21_2 + ((rd_T51 l0 x21_2).f5))) + 1)) ≥ (l0.length : Int) then (some false) else (impl_GoodProgram.l0 k2 l0 l0 (l0.length : Int) (wrap64 (x21_2 + 1)))) = some r := by rw [if_pos rfl] at H; exact H
                      clear H
                      have H := H1
                      clear H1
                      by_cases c16 : (wrap64 ((wrap64 (x21_2 + ((rd_T51 l0 x21_2).f5))) + 1)) ≥ (l0.length : Int)
                      · rw [if_pos c16] at H
                        have c16b0 : decide ((l0.length : Int) ≤ (wrap64 ((wrap64 (x21_2 + ((rd_T51 l0 x21_2).f5))) + 1))) = true := decide_eq_true c16
                        clear c16
                        obtain rfl := Option.some.inj H
                        have p158 : 0 ≤ (x21_2 : Int) := of_decide_eq_true (by first | (with_reducible assumption) | assumption)
                        have q158 : x21_2 < (l0.length : Int) := of_decide_eq_true (by first | (with_reducible assumption) | assumption)
                        obtain ⟨ad158, e158, hx158_0, hx158_1, hx158_2, hx158_3, hx158_4, hx158_5⟩ := at_T51 HR0.out x21_2 p158 q158
                        cases e158
                        replace hx158_0 := (HB.out.cell (World.block_lt_of_cell? w _ hx158_0)).trans hx158_0
                        replace hx158_1 := (HB.out.cell (World.block_lt_of_cell? w _ hx158_1)).trans hx158_1
                        replace hx158_2 := (HB.out.cell (World.block_lt_of_cell? w _ hx158_2)).trans hx158_2
                        replace hx158_3 := (HB.out.cell (World.block_lt_of_cell? w _ hx158_3)).trans hx158_3
                        replace hx158_4 := (HB.out.cell (World.block_lt_of_cell? w _ hx158_4)).trans hx158_4
                        replace hx158_5 := (HB.out.cell (World.block_lt_of_cell? w _ hx158_5)).trans hx158_5
                        replace p158 := eq_true p158
                        replace q158 := eq_true q158
                        go_wp2_with (first | ((with_reducible refine gate_dst (N := 4) rfl ?_); (try (refine gate_guard (by rfl) ?_; dsimp only)); refine boxq_ (N := 4) (cs := #[.int .i64 0, .int .i64 0, .int .i64 0, .int .i64 0, .int .i64 0, .int .i64 0]) (t := 51) ?_; intro gb159 hg w17 hbox hb; have n0_ := Aside0.mk (below_step (bq_) hb); have n1_ := Aside0.mk (hbox); have n2_ := Aside0.mk ((by rw [hg]; exact (below_size (bq_)) : w.heap.size ≤ gb159)); have n3_ := Aside0.mk ((by rw [hg]; exact (below_size (bq_)) : w.heap.size ≤ gb159)); clear HB; have HB := n0_; have BK159 := n1_; have GW159 := n2_; have GE159 := n3_; clear n0_ n1_ n2_ n3_; clear hb hbox hg; have hcz18_0 := cq_ BK159.out 0 (.int .i64 0); have hcz18_1 := cq_ BK159.out 1 (.int .i64 0); have hcz18_2 := cq_ BK159.out 2 (.int .i64 0); have hcz18_3 := cq_ BK159.out 3 (.int .i64 0); have hcz18_4 := cq_ BK159.out 4 (.int .i64 0); have hcz18_5 := cq_ BK159.out 5 (.int .i64 0); have hfz18_0 := blk_frozen BK159.out 0; have hfz18_1 := blk_frozen BK159.out 1; have hfz18_2 := blk_frozen BK159.out 2; have hfz18_3 := blk_frozen BK159.out 3; have hfz18_4 := blk_frozen BK159.out 4; have hfz18_5 := blk_frozen BK159.out 5) | ((with_reducible refine gate_callee (f := 73) rfl ?_); refine goesL_ (some 27) rfl rfl Try.func73 (by kernel_rfl) rfl #[.agg #[.int .i64 ((rd_T51 l0 x21_2).f0), .int .i64 ((rd_T51 l0 x21_2).f1), .int .i64 ((rd_T51 l0 x21_2).f2), .int .i64 ((rd_T51 l0 x21_2).f3), .int .i64 ((rd_T51 l0 x21_2).f4), .int .i64 ((rd_T51 l0 x21_2).f5)]] rfl (by (try simp only [List.map_toArray, List.map_cons, List.map_nil]); first | done | rfl | (simp only [List.length_drop, List.length_take]; rfl)) ?_; (with_reducible refine (impl_Step_valid.calls k2 ((rd_T51 l0 x21_2).f0) ((rd_T51 l0 x21_2).f1) ((rd_T51 l0 x21_2).f2) ((rd_T51 l0 x21_2).f3) ((rd_T51 l0 x21_2).f4) ((rd_T51 l0 x21_2).f5) true _ A12.out).mono ?_); rintro e w19 ⟨rfl, hb⟩; refine ⟨_, rfl, ?_⟩; have n0_ := Aside0.mk (blk_below (g := gb159) (o := .cells #[.int .i64 ((rd_T51 l0 x21_2).f0), .int .i64 ((rd_T51 l0 x21_2).f1), .int .i64 ((rd_T51 l0 x21_2).f2), .int .i64 ((rd_T51 l0 x21_2).f3), .int .i64 ((rd_T51 l0 x21_2).f4), .int .i64 ((rd_T51 l0 x21_2).f5)] 51 (0, 0)) (by (with_reducible repeat (first | refine blk_drewN ?_ _ | refine blk_drew ?_ | refine blk_alloc ?_ _)); refine blk_put (cs := #[.int .i64 ((rd_T51 l0 x21_2).f0), .int .i64 ((rd_T51 l0 x21_2).f1), .int .i64 ((rd_T51 l0 x21_2).f2), .int .i64 ((rd_T51 l0 x21_2).f3), .int .i64 ((rd_T51 l0 x21_2).f4), .int .i64 0]) ?_ 5 _ rfl; (with_reducible repeat (first | refine blk_drewN ?_ _ | refine blk_drew ?_ | refine blk_alloc ?_ _)); refine blk_put (cs := #[.int .i64 ((rd_T51 l0 x21_2).f0), .int .i64 ((rd_T51 l0 x21_2).f1), .int .i64 ((rd_T51 l0 x21_2).f2), .int .i64 ((rd_T51 l0 x21_2).f3), .int .i64 0, .int .i64 0]) ?_ 4 _ rfl; (with_reducible repeat (first | refine blk_drewN ?_ _ | refine blk_drew ?_ | refine blk_alloc ?_ _)); refine blk_put (cs := #[.int .i64 ((rd_T51 l0 x21_2).f0), .int .i64 ((rd_T51 l0 x21_2).f1), .int .i64 ((rd_T51 l0 x21_2).f2), .int .i64 0, .int .i64 0, .int .i64 0]) ?_ 3 _ rfl; (with_reducible repeat (first | refine blk_drewN ?_ _ | refine blk_drew ?_ | refine blk_alloc ?_ _)); refine blk_put (cs := #[.int .i64 ((rd_T51 l0 x21_2).f0), .int .i64 ((rd_T51 l0 x21_2).f1), .int .i64 0, .int .i64 0, .int .i64 0, .int .i64 0]) ?_ 2 _ rfl; (with_reducible repeat (first | refine blk_drewN ?_ _ | refine blk_drew ?_ | refine blk_alloc ?_ _)); refine blk_put (cs := #[.int .i64 ((rd_T51 l0 x21_2).f0), .int .i64 0, .int .i64 0, .int .i64 0, .int .i64 0, .int .i64 0]) ?_ 1 _ rfl; (with_reducible repeat (first | refine blk_drewN ?_ _ | refine blk_drew ?_ | refine blk_alloc ?_ _)); refine blk_put (cs := #[.int .i64 0, .int .i64 0, .int .i64 0, .int .i64 0, .int .i64 0, .int .i64 0]) ?_ 0 _ rfl; (with_reducible repeat (first | refine blk_drewN ?_ _ | refine blk_drew ?_ | refine blk_alloc ?_ _)); exact BK159.out) hb); have n1_ := Aside0.mk (below_step (bq_) hb); clear BK159; clear HB; have BK159 := n0_; have HB := n1_; clear n0_ n1_; (try clear hb); (try clear hb2); (try clear hk); (try clear hi); have hcz20_0 := cq_ BK159.out 0 (.int .i64 ((rd_T51 l0 x21_2).f0)); have hcz20_1 := cq_ BK159.out 1 (.int .i64 ((rd_T51 l0 x21_2).f1)); have hcz20_2 := cq_ BK159.out 2 (.int .i64 ((rd_T51 l0 x21_2).f2)); have hcz20_3 := cq_ BK159.out 3 (.int .i64 ((rd_T51 l0 x21_2).f3)); have hcz20_4 := cq_ BK159.out 4 (.int .i64 ((rd_T51 l0 x21_2).f4)); have hcz20_5 := cq_ BK159.out 5 (.int .i64 ((rd_T51 l0 x21_2).f5)); have hfz20_0 := blk_frozen BK159.out 0; have hfz20_1 := blk_frozen BK159.out 1; have hfz20_2 := blk_frozen BK159.out 2; have hfz20_3 := blk_frozen BK159.out 3; have hfz20_4 := blk_frozen BK159.out 4; have hfz20_5 := blk_frozen BK159.out 5) | (go_at_call 56; (with_reducible refine (impl_Step_jumps.calls ((rd_T51 l0 x21_2).f0) ((rd_T51 l0 x21_2).f1) ((rd_T51 l0 x21_2).f2) ((rd_T51 l0 x21_2).f3) ((rd_T51 l0 x21_2).f4) ((rd_T51 l0 x21_2).f5) true _ A14.out).mono ?_); rintro e w21 ⟨rfl, hb⟩; have n0_ := Aside0.mk (blk_below (bk_ BK159.out) hb); have n1_ := Aside0.mk (below_step (bq_) hb); clear BK159; clear HB; have BK159 := n0_; have HB := n1_; clear n0_ n1_; (try clear hb); (try clear hb2); (try clear hk); (try clear hi); have hcz22_0 := cq_ BK159.out 0 (.int .i64 ((rd_T51 l0 x21_2).f0)); have hcz22_1 := cq_ BK159.out 1 (.int .i64 ((rd_T51 l0 x21_2).f1)); have hcz22_2 := cq_ BK159.out 2 (.int .i64 ((rd_T51 l0 x21_2).f2)); have hcz22_3 := cq_ BK159.out 3 (.int .i64 ((rd_T51 l0 x21_2).f3)); have hcz22_4 := cq_ BK159.out 4 (.int .i64 ((rd_T51 l0 x21_2).f4)); have hcz22_5 := cq_ BK159.out 5 (.int .i64 ((rd_T51 l0 x21_2).f5)); have hfz22_0 := blk_frozen BK159.out 0; have hfz22_1 := blk_frozen BK159.out 1; have hfz22_2 := blk_frozen BK159.out 2; have hfz22_3 := blk_frozen BK159.out 3; have hfz22_4 := blk_frozen BK159.out 4; have hfz22_5 := blk_frozen BK159.out 5))
                        go_ret
                        exact ⟨by first | rfl | (simp [errW_none, errW_some] <;> rfl) | (simp [*, errW_none, errW_some] <;> rfl), bq_⟩
                      · rw [if_neg c16] at H
                        have c16b0 : decide ((l0.length : Int) ≤ (wrap64 ((wrap64 (x21_2 + ((rd_T51 l0 x21_2).f5))) + 1))) = false := decide_eq_false c16
                        clear c16
                        have H' := Aside0.mk H
                        clear H
                        have p158 : 0 ≤ (x21_2 : Int) := of_decide_eq_true (by first | (with_reducible assumption) | assumption)
                        have q158 : x21_2 < (l0.length : Int) := of_decide_eq_true (by first | (with_reducible assumption) | assumption)
                        obtain ⟨ad158, e158, hx158_0, hx158_1, hx158_2, hx158_3, hx158_4, hx158_5⟩ := at_T51 HR0.out x21_2 p158 q158
                        cases e158
                        replace hx158_0 := (HB.out.cell (World.block_lt_of_cell? w _ hx158_0)).trans hx158_0
                        replace hx158_1 := (HB.out.cell (World.block_lt_of_cell? w _ hx158_1)).trans hx158_1
                        replace hx158_2 := (HB.out.cell (World.block_lt_of_cell? w _ hx158_2)).trans hx158_2
                        replace hx158_3 := (HB.out.cell (World.block_lt_of_cell? w _ hx158_3)).trans hx158_3
                        replace hx158_4 := (HB.out.cell (World.block_lt_of_cell? w _ hx158_4)).trans hx158_4
                        replace hx158_5 := (HB.out.cell (World.block_lt_of_cell? w _ hx158_5)).trans hx158_5
                        replace p158 := eq_true p158
                        replace q158 := eq_true q158
                        go_wp2_with (first | ((with_reducible refine gate_dst (N := 4) rfl ?_); (try (refine gate_guard (by rfl) ?_; dsimp only)); refine boxq_ (N := 4) (cs := #[.int .i64 0, .int .i64 0, .int .i64 0, .int .i64 0, .int .i64 0, .int .i64 0]) (t := 51) ?_; intro gb159 hg w23 hbox hb; have n0_ := Aside0.mk (below_step (bq_) hb); have n1_ := Aside0.mk (hbox); have n2_ := Aside0.mk ((by rw [hg]; exact (below_size (bq_)) : w.heap.size ≤ gb159)); have n3_ := Aside0.mk ((by rw [hg]; exact (below_size (bq_)) : w.heap.size ≤ gb159)); clear HB; have HB := n0_; have BK159 := n1_; have GW159 := n2_; have GE159 := n3_; clear n0_ n1_ n2_ n3_; clear hb hbox hg; have hcz24_0 := cq_ BK159.out 0 (.int .i64 0); have hcz24_1 := cq_ BK159.out 1 (.int .i64 0); have hcz24_2 := cq_ BK159.out 2 (.int .i64 0); have hcz24_3 := cq_ BK159.out 3 (.int .i64 0); have hcz24_4 := cq_ BK159.out 4 (.int .i64 0); have hcz24_5 := cq_ BK159.out 5 (.int .i64 0); have hfz24_0 := blk_frozen BK159.out 0; have hfz24_1 := blk_frozen BK159.out 1; have hfz24_2 := blk_frozen BK159.out 2; have hfz24_3 := blk_frozen BK159.out 3; have hfz24_4 := blk_frozen BK159.out 4; have hfz24_5 := blk_frozen BK159.out 5) | ((with_reducible refine gate_callee (f := 73) rfl ?_); refine goesL_ (some 27) rfl rfl Try.func73 (by kernel_rfl) rfl #[.agg #[.int .i64 ((rd_T51 l0 x21_2).f0), .int .i64 ((rd_T51 l0 x21_2).f1), .int .i64 ((rd_T51 l0 x21_2).f2), .int .i64 ((rd_T51 l0 x21_2).f3), .int .i64 ((rd_T51 l0 x21_2).f4), .int .i64 ((rd_T51 l0 x21_2).f5)]] rfl (by (try simp only [List.map_toArray, List.map_cons, List.map_nil]); first | done | rfl | (simp only [List.length_drop, List.length_take]; rfl)) ?_; (with_reducible refine (impl_Step_valid.calls k2 ((rd_T51 l0 x21_2).f0) ((rd_T51 l0 x21_2).f1) ((rd_T51 l0 x21_2).f2) ((rd_T51 l0 x21_2).f3) ((rd_T51 l0 x21_2).f4) ((rd_T51 l0 x21_2).f5) true _ A12.out).mono ?_); rintro e w25 ⟨rfl, hb⟩; refine ⟨_, rfl, ?_⟩; have n0_ := Aside0.mk (blk_below (g := gb159) (o := .cells #[.int .i64 ((rd_T51 l0 x21_2).f0), .int .i64 ((rd_T51 l0 x21_2).f1), .int .i64 ((rd_T51 l0 x21_2).f2), .int .i64 ((rd_T51 l0 x21_2).f3), .int .i64 ((rd_T51 l0 x21_2).f4), .int .i64 ((rd_T51 l0 x21_2).f5)] 51 (0, 0)) (by (with_reducible repeat (first | refine blk_drewN ?_ _ | refine blk_drew ?_ | refine blk_alloc ?_ _)); refine blk_put (cs := #[.int .i64 ((rd_T51 l0 x21_2).f0), .int .i64 ((rd_T51 l0 x21_2).f1), .int .i64 ((rd_T51 l0 x21_2).f2), .int .i64 ((rd_T51 l0 x21_2).f3), .int .i64 ((rd_T51 l0 x21_2).f4), .int .i64 0]) ?_ 5 _ rfl; (with_reducible repeat (first | refine blk_drewN ?_ _ | refine blk_drew ?_ | refine blk_alloc ?_ _)); refine blk_put (cs := #[.int .i64 ((rd_T51 l0 x21_2).f0), .int .i64 ((rd_T51 l0 x21_2).f1), .int .i64 ((rd_T51 l0 x21_2).f2), .int .i64 ((rd_T51 l0 x21_2).f3), .int .i64 0, .int .i64 0]) ?_ 4 _ rfl; (with_reducible repeat (first | refine blk_drewN ?_ _ | refine blk_drew ?_ | refine blk_alloc ?_ _)); refine blk_put (cs := #[.int .i64 ((rd_T51 l0 x21_2).f0), .int .i64 ((rd_T51 l0 x21_2).f1), .int .i64 ((rd_T51 l0 x21_2).f2), .int .i64 0, .int .i64 0, .int .i64 0]) ?_ 3 _ rfl; (with_reducible repeat (first | refine blk_drewN ?_ _ | refine blk_drew ?_ | refine blk_alloc ?_ _)); refine blk_put (cs := #[.int .i64 ((rd_T51 l0 x21_2).f0), .int .i64 ((rd_T51 l0 x21_2).f1), .int .i64 0, .int .i64 0, .int .i64 0, .int .i64 0]) ?_ 2 _ rfl; (with_reducible repeat (first | refine blk_drewN ?_ _ | refine blk_drew ?_ | refine blk_alloc ?_ _)); refine blk_put (cs := #[.int .i64 ((rd_T51 l0 x21_2).f0), .int .i64 0, .int .i64 0, .int .i64 0, .int .i64 0, .int .i64 0]) ?_ 1 _ rfl; (with_reducible repeat (first | refine blk_drewN ?_ _ | refine blk_drew ?_ | refine blk_alloc ?_ _)); refine blk_put (cs := #[.int .i64 0, .int .i64 0, .int .i64 0, .int .i64 0, .int .i64 0, .int .i64 0]) ?_ 0 _ rfl; (with_reducible repeat (first | refine blk_drewN ?_ _ | refine blk_drew ?_ | refine blk_alloc ?_ _)); exact BK159.out) hb); have n1_ := Aside0.mk (below_step (bq_) hb); clear BK159; clear HB; have BK159 := n0_; have HB := n1_; clear n0_ n1_; (try clear hb); (try clear hb2); (try clear hk); (try clear hi); have hcz26_0 := cq_ BK159.out 0 (.int .i64 ((rd_T51 l0 x21_2).f0)); have hcz26_1 := cq_ BK159.out 1 (.int .i64 ((rd_T51 l0 x21_2).f1)); have hcz26_2 := cq_ BK159.out 2 (.int .i64 ((rd_T51 l0 x21_2).f2)); have hcz26_3 := cq_ BK159.out 3 (.int .i64 ((rd_T51 l0 x21_2).f3)); have hcz26_4 := cq_ BK159.out 4 (.int .i64 ((rd_T51 l0 x21_2).f4)); have hcz26_5 := cq_ BK159.out 5 (.int .i64 ((rd_T51 l0 x21_2).f5)); have hfz26_0 := blk_frozen BK159.out 0; have hfz26_1 := blk_frozen BK159.out 1; have hfz26_2 := blk_frozen BK159.out 2; have hfz26_3 := blk_frozen BK159.out 3; have hfz26_4 := blk_frozen BK159.out 4; have hfz26_5 := blk_frozen BK159.out 5) | (go_at_call 56; (with_reducible refine (impl_Step_jumps.calls ((rd_T51 l0 x21_2).f0) ((rd_T51 l0 x21_2).f1) ((rd_T51 l0 x21_2).f2) ((rd_T51 l0 x21_2).f3) ((rd_T51 l0 x21_2).f4) ((rd_T51 l0 x21_2).f5) true _ A14.out).mono ?_); rintro e w27 ⟨rfl, hb⟩; have n0_ := Aside0.mk (blk_below (bk_ BK159.out) hb); have n1_ := Aside0.mk (below_step (bq_) hb); clear BK159; clear HB; have BK159 := n0_; have HB := n1_; clear n0_ n1_; (try clear hb); (try clear hb2); (try clear hk); (try clear hi); have hcz28_0 := cq_ BK159.out 0 (.int .i64 ((rd_T51 l0 x21_2).f0)); have hcz28_1 := cq_ BK159.out 1 (.int .i64 ((rd_T51 l0 x21_2).f1)); have hcz28_2 := cq_ BK159.out 2 (.int .i64 ((rd_T51 l0 x21_2).f2)); have hcz28_3 := cq_ BK159.out 3 (.int .i64 ((rd_T51 l0 x21_2).f3)); have hcz28_4 := cq_ BK159.out 4 (.int .i64 ((rd_T51 l0 x21_2).f4)); have hcz28_5 := cq_ BK159.out 5 (.int .i64 ((rd_T51 l0 x21_2).f5)); have hfz28_0 := blk_frozen BK159.out 0; have hfz28_1 := blk_frozen BK159.out 1; have hfz28_2 := blk_frozen BK159.out 2; have hfz28_3 := blk_frozen BK159.out 3; have hfz28_4 := blk_frozen BK159.out 4; have hfz28_5 := blk_frozen BK159.out 5))
                        go_roundg k2
                        case measure => have := HJ1.out; have := HK2.out; omega
                        case rel => exact ⟨(wrap64 (x21_2 + 1)), (by first | rfl | (simp; done) | (simp [*]; done)), H', ⟨by have := HJ1.out; have := HK2.out; omega⟩, ⟨bq_⟩⟩
                    · replace c15 := Bool.eq_false_iff.mpr c15
                      subst c15
                      have H1 : (impl_GoodProgram.l0 k2 l0 l0 (l0.length : Int) (wrap64 (x21_2 + 1))) = some r := by rw [if_neg (show ¬ (false = true) by decide)] at H; exact H
                      clear H
                      have H := H1
                      clear H1
                      have H' := Aside0.mk H
                      clear H
                      have p158 : 0 ≤ (x21_2 : Int) := of_decide_eq_true (by first | (with_reducible assumption) | assumption)
                      have q158 : x21_2 < (l0.length : Int) := of_decide_eq_true (by first | (with_reducible assumption) | assumption)
                      obtain ⟨ad158, e158, hx158_0, hx158_1, hx158_2, hx158_3, hx158_4, hx158_5⟩ := at_T51 HR0.out x21_2 p158 q158
                      cases e158
                      replace hx158_0 := (HB.out.cell (World.block_lt_of_cell? w _ hx158_0)).trans hx158_0
                      replace hx158_1 := (HB.out.cell (World.block_lt_of_cell? w _ hx158_1)).trans hx158_1
                      replace hx158_2 := (HB.out.cell (World.block_lt_of_cell? w _ hx158_2)).trans hx158_2
                      replace hx158_3 := (HB.out.cell (World.block_lt_of_cell? w _ hx158_3)).trans hx158_3
                      replace hx158_4 := (HB.out.cell (World.block_lt_of_cell? w _ hx158_4)).trans hx158_4
                      replace hx158_5 := (HB.out.cell (World.block_lt_of_cell? w _ hx158_5)).trans hx158_5
                      replace p158 := eq_true p158
                      replace q158 := eq_true q158
                      go_wp2_with (first | ((with_reducible refine gate_dst (N := 4) rfl ?_); (try (refine gate_guard (by rfl) ?_; dsimp only)); refine boxq_ (N := 4) (cs := #[.int .i64 0, .int .i64 0, .int .i64 0, .int .i64 0, .int .i64 0, .int .i64 0]) (t := 51) ?_; intro gb159 hg w29 hbox hb; have n0_ := Aside0.mk (below_step (bq_) hb); have n1_ := Aside0.mk (hbox); have n2_ := Aside0.mk ((by rw [hg]; exact (below_size (bq_)) : w.heap.size ≤ gb159)); have n3_ := Aside0.mk ((by rw [hg]; exact (below_size (bq_)) : w.heap.size ≤ gb159)); clear HB; have HB := n0_; have BK159 := n1_; have GW159 := n2_; have GE159 := n3_; clear n0_ n1_ n2_ n3_; clear hb hbox hg; have hcz30_0 := cq_ BK159.out 0 (.int .i64 0); have hcz30_1 := cq_ BK159.out 1 (.int .i64 0); have hcz30_2 := cq_ BK159.out 2 (.int .i64 0); have hcz30_3 := cq_ BK159.out 3 (.int .i64 0); have hcz30_4 := cq_ BK159.out 4 (.int .i64 0); have hcz30_5 := cq_ BK159.out 5 (.int .i64 0); have hfz30_0 := blk_frozen BK159.out 0; have hfz30_1 := blk_frozen BK159.out 1; have hfz30_2 := blk_frozen BK159.out 2; have hfz30_3 := blk_frozen BK159.out 3; have hfz30_4 := blk_frozen BK159.out 4; have hfz30_5 := blk_frozen BK159.out 5) | ((with_reducible refine gate_callee (f := 73) rfl ?_); refine goesL_ (some 27) rfl rfl Try.func73 (by kernel_rfl) rfl #[.agg #[.int .i64 ((rd_T51 l0 x21_2).f0), .int .i64 ((rd_T51 l0 x21_2).f1), .int .i64 ((rd_T51 l0 x21_2).f2), .int .i64 ((rd_T51 l0 x21_2).f3), .int .i64 ((rd_T51 l0 x21_2).f4), .int .i64 ((rd_T51 l0 x21_2).f5)]] rfl (by (try simp only [List.map_toArray, List.map_cons, List.map_nil]); first | done | rfl | (simp only [List.length_drop, List.length_take]; rfl)) ?_; (with_reducible refine (impl_Step_valid.calls k2 ((rd_T51 l0 x21_2).f0) ((rd_T51 l0 x21_2).f1) ((rd_T51 l0 x21_2).f2) ((rd_T51 l0 x21_2).f3) ((rd_T51 l0 x21_2).f4) ((rd_T51 l0 x21_2).f5) true _ A12.out).mono ?_); rintro e w31 ⟨rfl, hb⟩; refine ⟨_, rfl, ?_⟩; have n0_ := Aside0.mk (blk_below (g := gb159) (o := .cells #[.int .i64 ((rd_T51 l0 x21_2).f0), .int .i64 ((rd_T51 l0 x21_2).f1), .int .i64 ((rd_T51 l0 x21_2).f2), .int .i64 ((rd_T51 l0 x21_2).f3), .int .i64 ((rd_T51 l0 x21_2).f4), .int .i64 ((rd_T51 l0 x21_2).f5)] 51 (0, 0)) (by (with_reducible repeat (first | refine blk_drewN ?_ _ | refine blk_drew ?_ | refine blk_alloc ?_ _)); refine blk_put (cs := #[.int .i64 ((rd_T51 l0 x21_2).f0), .int .i64 ((rd_T51 l0 x21_2).f1), .int .i64 ((rd_T51 l0 x21_2).f2), .int .i64 ((rd_T51 l0 x21_2).f3), .int .i64 ((rd_T51 l0 x21_2).f4), .int .i64 0]) ?_ 5 _ rfl; (with_reducible repeat (first | refine blk_drewN ?_ _ | refine blk_drew ?_ | refine blk_alloc ?_ _)); refine blk_put (cs := #[.int .i64 ((rd_T51 l0 x21_2).f0), .int .i64 ((rd_T51 l0 x21_2).f1), .int .i64 ((rd_T51 l0 x21_2).f2), .int .i64 ((rd_T51 l0 x21_2).f3), .int .i64 0, .int .i64 0]) ?_ 4 _ rfl; (with_reducible repeat (first | refine blk_drewN ?_ _ | refine blk_drew ?_ | refine blk_alloc ?_ _)); refine blk_put (cs := #[.int .i64 ((rd_T51 l0 x21_2).f0), .int .i64 ((rd_T51 l0 x21_2).f1), .int .i64 ((rd_T51 l0 x21_2).f2), .int .i64 0, .int .i64 0, .int .i64 0]) ?_ 3 _ rfl; (with_reducible repeat (first | refine blk_drewN ?_ _ | refine blk_drew ?_ | refine blk_alloc ?_ _)); refine blk_put (cs := #[.int .i64 ((rd_T51 l0 x21_2).f0), .int .i64 ((rd_T51 l0 x21_2).f1), .int .i64 0, .int .i64 0, .int .i64 0, .int .i64 0]) ?_ 2 _ rfl; (with_reducible repeat (first | refine blk_drewN ?_ _ | refine blk_drew ?_ | refine blk_alloc ?_ _)); refine blk_put (cs := #[.int .i64 ((rd_T51 l0 x21_2).f0), .int .i64 0, .int .i64 0, .int .i64 0, .int .i64 0, .int .i64 0]) ?_ 1 _ rfl; (with_reducible repeat (first | refine blk_drewN ?_ _ | refine blk_drew ?_ | refine blk_alloc ?_ _)); refine blk_put (cs := #[.int .i64 0, .int .i64 0, .int .i64 0, .int .i64 0, .int .i64 0, .int .i64 0]) ?_ 0 _ rfl; (with_reducible repeat (first | refine blk_drewN ?_ _ | refine blk_drew ?_ | refine blk_alloc ?_ _)); exact BK159.out) hb); have n1_ := Aside0.mk (below_step (bq_) hb); clear BK159; clear HB; have BK159 := n0_; have HB := n1_; clear n0_ n1_; (try clear hb); (try clear hb2); (try clear hk); (try clear hi); have hcz32_0 := cq_ BK159.out 0 (.int .i64 ((rd_T51 l0 x21_2).f0)); have hcz32_1 := cq_ BK159.out 1 (.int .i64 ((rd_T51 l0 x21_2).f1)); have hcz32_2 := cq_ BK159.out 2 (.int .i64 ((rd_T51 l0 x21_2).f2)); have hcz32_3 := cq_ BK159.out 3 (.int .i64 ((rd_T51 l0 x21_2).f3)); have hcz32_4 := cq_ BK159.out 4 (.int .i64 ((rd_T51 l0 x21_2).f4)); have hcz32_5 := cq_ BK159.out 5 (.int .i64 ((rd_T51 l0 x21_2).f5)); have hfz32_0 := blk_frozen BK159.out 0; have hfz32_1 := blk_frozen BK159.out 1; have hfz32_2 := blk_frozen BK159.out 2; have hfz32_3 := blk_frozen BK159.out 3; have hfz32_4 := blk_frozen BK159.out 4; have hfz32_5 := blk_frozen BK159.out 5) | (go_at_call 56; (with_reducible refine (impl_Step_jumps.calls ((rd_T51 l0 x21_2).f0) ((rd_T51 l0 x21_2).f1) ((rd_T51 l0 x21_2).f2) ((rd_T51 l0 x21_2).f3) ((rd_T51 l0 x21_2).f4) ((rd_T51 l0 x21_2).f5) false _ A14.out).mono ?_); rintro e w33 ⟨rfl, hb⟩; have n0_ := Aside0.mk (blk_below (bk_ BK159.out) hb); have n1_ := Aside0.mk (below_step (bq_) hb); clear BK159; clear HB; have BK159 := n0_; have HB := n1_; clear n0_ n1_; (try clear hb); (try clear hb2); (try clear hk); (try clear hi)))
                      go_roundg k2
                      case measure => have := HJ1.out; have := HK2.out; omega
                      case rel => exact ⟨(wrap64 (x21_2 + 1)), (by first | rfl | (simp; done) | (simp [*]; done)), H', ⟨by have := HJ1.out; have := HK2.out; omega⟩, ⟨bq_⟩⟩
                  · replace c13 := Bool.eq_false_iff.mpr c13
                    subst c13
                    have H1 : (some false) = some r := by rw [if_neg (show ¬ (false = true) by decide)] at H; exact H
                    clear H
                    have H := H1
                    clear H1
                    obtain rfl := Option.some.inj H
                    have p158 : 0 ≤ (x21_2 : Int) := of_decide_eq_true (by first | (with_reducible assumption) | assumption)
                    have q158 : x21_2 < (l0.length : Int) := of_decide_eq_true (by first | (with_reducible assumption) | assumption)
                    obtain ⟨ad158, e158, hx158_0, hx158_1, hx158_2, hx158_3, hx158_4, hx158_5⟩ := at_T51 HR0.out x21_2 p158 q158
                    cases e158
                    replace hx158_0 := (HB.out.cell (World.block_lt_of_cell? w _ hx158_0)).trans hx158_0
                    replace hx158_1 := (HB.out.cell (World.block_lt_of_cell? w _ hx158_1)).trans hx158_1
                    replace hx158_2 := (HB.out.cell (World.block_lt_of_cell? w _ hx158_2)).trans hx158_2
                    replace hx158_3 := (HB.out.cell (World.block_lt_of_cell? w _ hx158_3)).trans hx158_3
                    replace hx158_4 := (HB.out.cell (World.block_lt_of_cell? w _ hx158_4)).trans hx158_4
                    replace hx158_5 := (HB.out.cell (World.block_lt_of_cell? w _ hx158_5)).trans hx158_5
                    replace p158 := eq_true p158
                    replace q158 := eq_true q158
                    go_wp2_with (first | ((with_reducible refine gate_dst (N := 4) rfl ?_); (try (refine gate_guard (by rfl) ?_; dsimp only)); refine boxq_ (N := 4) (cs := #[.int .i64 0, .int .i64 0, .int .i64 0, .int .i64 0, .int .i64 0, .int .i64 0]) (t := 51) ?_; intro gb159 hg w34 hbox hb; have n0_ := Aside0.mk (below_step (bq_) hb); have n1_ := Aside0.mk (hbox); have n2_ := Aside0.mk ((by rw [hg]; exact (below_size (bq_)) : w.heap.size ≤ gb159)); have n3_ := Aside0.mk ((by rw [hg]; exact (below_size (bq_)) : w.heap.size ≤ gb159)); clear HB; have HB := n0_; have BK159 := n1_; have GW159 := n2_; have GE159 := n3_; clear n0_ n1_ n2_ n3_; clear hb hbox hg; have hcz35_0 := cq_ BK159.out 0 (.int .i64 0); have hcz35_1 := cq_ BK159.out 1 (.int .i64 0); have hcz35_2 := cq_ BK159.out 2 (.int .i64 0); have hcz35_3 := cq_ BK159.out 3 (.int .i64 0); have hcz35_4 := cq_ BK159.out 4 (.int .i64 0); have hcz35_5 := cq_ BK159.out 5 (.int .i64 0); have hfz35_0 := blk_frozen BK159.out 0; have hfz35_1 := blk_frozen BK159.out 1; have hfz35_2 := blk_frozen BK159.out 2; have hfz35_3 := blk_frozen BK159.out 3; have hfz35_4 := blk_frozen BK159.out 4; have hfz35_5 := blk_frozen BK159.out 5) | ((with_reducible refine gate_callee (f := 73) rfl ?_); refine goesL_ (some 27) rfl rfl Try.func73 (by kernel_rfl) rfl #[.agg #[.int .i64 ((rd_T51 l0 x21_2).f0), .int .i64 ((rd_T51 l0 x21_2).f1), .int .i64 ((rd_T51 l0 x21_2).f2), .int .i64 ((rd_T51 l0 x21_2).f3), .int .i64 ((rd_T51 l0 x21_2).f4), .int .i64 ((rd_T51 l0 x21_2).f5)]] rfl (by (try simp only [List.map_toArray, List.map_cons, List.map_nil]); first | done | rfl | (simp only [List.length_drop, List.length_take]; rfl)) ?_; (with_reducible refine (impl_Step_valid.calls k2 ((rd_T51 l0 x21_2).f0) ((rd_T51 l0 x21_2).f1) ((rd_T51 l0 x21_2).f2) ((rd_T51 l0 x21_2).f3) ((rd_T51 l0 x21_2).f4) ((rd_T51 l0 x21_2).f5) false _ A12.out).mono ?_); rintro e w36 ⟨rfl, hb⟩; refine ⟨_, rfl, ?_⟩; have n0_ := Aside0.mk (blk_below (g := gb159) (o := .cells #[.int .i64 ((rd_T51 l0 x21_2).f0), .int .i64 ((rd_T51 l0 x21_2).f1), .int .i64 ((rd_T51 l0 x21_2).f2), .int .i64 ((rd_T51 l0 x21_2).f3), .int .i64 ((rd_T51 l0 x21_2).f4), .int .i64 ((rd_T51 l0 x21_2).f5)] 51 (0, 0)) (by (with_reducible repeat (first | refine blk_drewN ?_ _ | refine blk_drew ?_ | refine blk_alloc ?_ _)); refine blk_put (cs := #[.int .i64 ((rd_T51 l0 x21_2).f0), .int .i64 ((rd_T51 l0 x21_2).f1), .int .i64 ((rd_T51 l0 x21_2).f2), .int .i64 ((rd_T51 l0 x21_2).f3), .int .i64 ((rd_T51 l0 x21_2).f4), .int .i64 0]) ?_ 5 _ rfl; (with_reducible repeat (first | refine blk_drewN ?_ _ | refine blk_drew ?_ | refine blk_alloc ?_ _)); refine blk_put (cs := #[.int .i64 ((rd_T51 l0 x21_2).f0), .int .i64 ((rd_T51 l0 x21_2).f1), .int .i64 ((rd_T51 l0 x21_2).f2), .int .i64 ((rd_T51 l0 x21_2).f3), .int .i64 0, .int .i64 0]) ?_ 4 _ rfl; (with_reducible repeat (first | refine blk_drewN ?_ _ | refine blk_drew ?_ | refine blk_alloc ?_ _)); refine blk_put (cs := #[.int .i64 ((rd_T51 l0 x21_2).f0), .int .i64 ((rd_T51 l0 x21_2).f1), .int .i64 ((rd_T51 l0 x21_2).f2), .int .i64 0, .int .i64 0, .int .i64 0]) ?_ 3 _ rfl; (with_reducible repeat (first | refine blk_drewN ?_ _ | refine blk_drew ?_ | refine blk_alloc ?_ _)); refine blk_put (cs := #[.int .i64 ((rd_T51 l0 x21_2).f0), .int .i64 ((rd_T51 l0 x21_2).f1), .int .i64 0, .int .i64 0, .int .i64 0, .int .i64 0]) ?_ 2 _ rfl; (with_reducible repeat (first | refine blk_drewN ?_ _ | refine blk_drew ?_ | refine blk_alloc ?_ _)); refine blk_put (cs := #[.int .i64 ((rd_T51 l0 x21_2).f0), .int .i64 0, .int .i64 0, .int .i64 0, .int .i64 0, .int .i64 0]) ?_ 1 _ rfl; (with_reducible repeat (first | refine blk_drewN ?_ _ | refine blk_drew ?_ | refine blk_alloc ?_ _)); refine blk_put (cs := #[.int .i64 0, .int .i64 0, .int .i64 0, .int .i64 0, .int .i64 0, .int .i64 0]) ?_ 0 _ rfl; (with_reducible repeat (first | refine blk_drewN ?_ _ | refine blk_drew ?_ | refine blk_alloc ?_ _)); exact BK159.out) hb); have n1_ := Aside0.mk (below_step (bq_) hb); clear BK159; clear HB; have BK159 := n0_; have HB := n1_; clear n0_ n1_; (try clear hb); (try clear hb2); (try clear hk); (try clear hi)))
                    go_ret
                    exact ⟨by first | rfl | (simp [errW_none, errW_some] <;> rfl) | (simp [*, errW_none, errW_some] <;> rfl), bq_⟩
                · rw [if_neg c11] at H
                  exact absurd H (by simp)
              · rw [if_neg c10] at H
                exact absurd H (by simp)
            · rw [if_neg c9] at H
              have c9b0 : decide (x21_2 < (l0.length : Int)) = false := decide_eq_false c9
              clear c9
              obtain rfl := Option.some.inj H
              go_wp2
              go_ret
              exact ⟨by first | rfl | (simp [errW_none, errW_some] <;> rfl) | (simp [*, errW_none, errW_some] <;> rfl), bq_⟩
def impl_isStep.f (k : Nat) (l0 : List (S51)) (a1 : Int) : Option (Bool) := (impl_GoodProgram.f k l0).bind fun t162 => (if t162 = true then ((impl_in.f a1 0 (wrap64 ((l0.length : Int) - 1))).bind fun t163 => (some t163)) else (some false))
set_option maxHeartbeats 8000000 in
set_option maxRecDepth 100000 in
theorem impl_isStep.calls (k : Nat) (A0 : Option Addr) (c0 : Nat) (l0 : List (S51)) (a1 : Int) (r : Bool) (w : World) (hr0 : Kd.C k51 w A0 l0.length l0) (hc0 : l0.length ≤ c0) (h : impl_isStep.f k l0 a1 = some r) :
    Calls Try.prog 44 #[.slice A0 l0.length c0, .int .i64 a1] w fun e w' => e = .returned (.bool r) ∧ Below w.heap.size w w' := by
  have HR0 := Aside0.mk hr0
  have HC0 := Aside0.mk hc0
  clear hr0 hc0
  have HB := Aside0.mk (Below.refl w.heap.size w)
  have H : ((impl_GoodProgram.f k l0).bind fun t162 => (if t162 = true then ((impl_in.f a1 0 (wrap64 ((l0.length : Int) - 1))).bind fun t163 => (some t163)) else (some false))) = some r := h
  clear h
  replace H := Option.bind_eq_some_iff.mp H
  obtain ⟨t162, A30, H⟩ := H
  replace H : (if t162 = true then ((impl_in.f a1 0 (wrap64 ((l0.length : Int) - 1))).bind fun t163 => (some t163)) else (some false)) = some r := H
  have A3 := Aside0.mk A30
  clear A30
  by_cases c4 : t162 = true
  · subst c4
    have H1 : ((impl_in.f a1 0 (wrap64 ((l0.length : Int) - 1))).bind fun t163 => (some t163)) = some r := by rw [if_pos rfl] at H; exact H
    clear H
    have H := H1
    clear H1
    replace H := Option.bind_eq_some_iff.mp H
    obtain ⟨t163, A50, H⟩ := H
    replace H : (some t163) = some r := H
    have A5 := Aside0.mk A50
    clear A50
    obtain rfl := Option.some.inj H
    go_enter Try.func44, Try.ntmps44
    go_wp2_with (first | ((with_reducible refine gate_callee (f := 49) rfl ?_); refine goesL_ (some 6) rfl rfl Try.func49 (by kernel_rfl) rfl #[.slice A0 l0.length c0] rfl (by (try simp only [List.map_toArray, List.map_cons, List.map_nil]); first | done | rfl | (simp only [List.length_drop, List.length_take]; rfl)) ?_; (with_reducible refine (impl_GoodProgram.calls k _ _ l0 true _ ?side1 ?side2 A3.out).mono ?_); (case side1 => repeat (first | exact HR0.out | (with_reducible refine Kd.C_alloc ?_ _) | (with_reducible refine Kd.C_drewN ?_ _) | (with_reducible refine Kd.C_drew ?_))); (case side2 => exact HC0.out); rintro e w6 ⟨rfl, hb⟩; refine ⟨_, rfl, ?_⟩; have n0_ := Aside0.mk (below_step (bq_) hb); clear HB; have HB := n0_; clear n0_; (try clear hb); (try clear hb2); (try clear hk); (try clear hi)) | (go_at_call 70; (with_reducible refine (impl_in.calls a1 0 (wrap64 ((l0.length : Int) - 1)) t163 _ A5.out).mono ?_); rintro e w' ⟨rfl, ⟨nd, rfl⟩⟩))
    go_ret
    exact ⟨by first | rfl | (simp [errW_none, errW_some] <;> rfl) | (simp [*, errW_none, errW_some] <;> rfl), bq_⟩
  · replace c4 := Bool.eq_false_iff.mpr c4
    subst c4
    have H1 : (some false) = some r := by rw [if_neg (show ¬ (false = true) by decide)] at H; exact H
    clear H
    have H := H1
    clear H1
    obtain rfl := Option.some.inj H
    go_enter Try.func44, Try.ntmps44
    go_wp2_with (first | ((with_reducible refine gate_callee (f := 49) rfl ?_); refine goesL_ (some 6) rfl rfl Try.func49 (by kernel_rfl) rfl #[.slice A0 l0.length c0] rfl (by (try simp only [List.map_toArray, List.map_cons, List.map_nil]); first | done | rfl | (simp only [List.length_drop, List.length_take]; rfl)) ?_; (with_reducible refine (impl_GoodProgram.calls k _ _ l0 false _ ?side1 ?side2 A3.out).mono ?_); (case side1 => repeat (first | exact HR0.out | (with_reducible refine Kd.C_alloc ?_ _) | (with_reducible refine Kd.C_drewN ?_ _) | (with_reducible refine Kd.C_drew ?_))); (case side2 => exact HC0.out); rintro e w7 ⟨rfl, hb⟩; refine ⟨_, rfl, ?_⟩; have n0_ := Aside0.mk (below_step (bq_) hb); clear HB; have HB := n0_; clear n0_; (try clear hb); (try clear hb2); (try clear hk); (try clear hi)))
    go_ret
    exact ⟨by first | rfl | (simp [errW_none, errW_some] <;> rfl) | (simp [*, errW_none, errW_some] <;> rfl), bq_⟩
def impl_nexts.f (l0 : List (S51)) (a1 : Int) : Option (List Int) := if 0 ≤ a1 then (if a1 < (l0.length : Int) then (if ((rd_T51 l0 a1).f0) = 11 then (some ([] : List Int)) else (if ((rd_T51 l0 a1).f0) = 8 then (some (([wrap64 ((wrap64 (a1 + ((rd_T51 l0 a1).f5))) + 1)] : List Int))) else (if ((rd_T51 l0 a1).f0) = 9 then (some (([wrap64 (a1 + 1), wrap64 ((wrap64 (a1 + ((rd_T51 l0 a1).f5))) + 1)] : List Int))) else (if ((rd_T51 l0 a1).f0) = 10 then (some (([wrap64 (a1 + 1), wrap64 ((wrap64 (a1 + ((rd_T51 l0 a1).f5))) + 1)] : List Int))) else (some (([wrap64 (a1 + 1)] : List Int))))))) else (none)) else (none)
set_option maxHeartbeats 8000000 in
set_option maxRecDepth 100000 in
theorem impl_nexts.calls (A0 : Option Addr) (c0 : Nat) (l0 : List (S51)) (a1 : Int) (r : List Int) (w : World) (hr0 : Kd.C k51 w A0 l0.length l0) (hc0 : l0.length ≤ c0) (h : impl_nexts.f l0 a1 = some r) :
    Calls Try.prog 61 #[.slice A0 l0.length c0, .int .i64 a1] w fun e w' => ∃ v0_ : Value, e = .returned (v0_) ∧ Kd.R (Kd.int .i64) 3 w' w.heap.size (fun _ => True) v0_ r ∧ Below w.heap.size w w' := by
  have hu51 := Try.underlying51
  have HR0 := Aside0.mk hr0
  have HC0 := Aside0.mk hc0
  clear hr0 hc0
  have HB := Aside0.mk (Below.refl w.heap.size w)
  have H : (if 0 ≤ a1 then (if a1 < (l0.length : Int) then (if ((rd_T51 l0 a1).f0) = 11 then (some ([] : List Int)) else (if ((rd_T51 l0 a1).f0) = 8 then (some (([wrap64 ((wrap64 (a1 + ((rd_T51 l0 a1).f5))) + 1)] : List Int))) else (if ((rd_T51 l0 a1).f0) = 9 then (some (([wrap64 (a1 + 1), wrap64 ((wrap64 (a1 + ((rd_T51 l0 a1).f5))) + 1)] : List Int))) else (if ((rd_T51 l0 a1).f0) = 10 then (some (([wrap64 (a1 + 1), wrap64 ((wrap64 (a1 + ((rd_T51 l0 a1).f5))) + 1)] : List Int))) else (some (([wrap64 (a1 + 1)] : List Int))))))) else (none)) else (none)) = some r := h
  clear h
  by_cases c3 : 0 ≤ a1
  · rw [if_pos c3] at H
    have c3b0 : decide (0 ≤ a1) = true := decide_eq_true c3
    clear c3
    by_cases c4 : a1 < (l0.length : Int)
    · rw [if_pos c4] at H
      have c4b0 : decide (a1 < (l0.length : Int)) = true := decide_eq_true c4
      clear c4
      by_cases c5 : ((rd_T51 l0 a1).f0) = 11
      · rw [if_pos c5] at H
        have c5b0 : (((rd_T51 l0 a1).f0) == 11) = true := beq_iff_eq.mpr c5
        have c5b1 : (((rd_T51 l0 a1).f0) != 11) = false := bne_eq_false_iff_eq.mpr c5
        clear c5
        obtain rfl := Option.some.inj H
        have p164 : 0 ≤ (a1 : Int) := of_decide_eq_true (by first | (with_reducible assumption) | assumption)
        have q164 : a1 < (l0.length : Int) := of_decide_eq_true (by first | (with_reducible assumption) | assumption)
        obtain ⟨ad164, e164, hx164_0, hx164_1, hx164_2, hx164_3, hx164_4, hx164_5⟩ := at_T51 HR0.out a1 p164 q164
        cases e164
        replace p164 := eq_true p164
        replace q164 := eq_true q164
        go_enter Try.func61, Try.ntmps61
        go_wp2_with (first | ((with_reducible refine gate_dst (N := 5) rfl ?_); refine boxq_ (N := 5) (cs := #[.int .i64 0, .int .i64 0, .int .i64 0, .int .i64 0, .int .i64 0, .int .i64 0]) (t := 51) ?_; intro gb165 hg w6 hbox hb; have n0_ := Aside0.mk (below_step (bq_) hb); have n1_ := Aside0.mk (hbox); have n2_ := Aside0.mk ((by rw [hg]; exact (below_size (bq_)) : w.heap.size ≤ gb165)); have n3_ := Aside0.mk ((by rw [hg]; exact (below_size (bq_)) : w.heap.size ≤ gb165)); clear HB; have HB := n0_; have BK165 := n1_; have GW165 := n2_; have GE165 := n3_; clear n0_ n1_ n2_ n3_; clear hb hbox hg; have hcz7_0 := cq_ BK165.out 0 (.int .i64 0); have hcz7_1 := cq_ BK165.out 1 (.int .i64 0); have hcz7_2 := cq_ BK165.out 2 (.int .i64 0); have hcz7_3 := cq_ BK165.out 3 (.int .i64 0); have hcz7_4 := cq_ BK165.out 4 (.int .i64 0); have hcz7_5 := cq_ BK165.out 5 (.int .i64 0); have hfz7_0 := blk_frozen BK165.out 0; have hfz7_1 := blk_frozen BK165.out 1; have hfz7_2 := blk_frozen BK165.out 2; have hfz7_3 := blk_frozen BK165.out 3; have hfz7_4 := blk_frozen BK165.out 4; have hfz7_5 := blk_frozen BK165.out 5))
        go_ret
        exact ⟨_, by first | rfl | (simp [errW_none, errW_some] <;> rfl) | (simp [*, errW_none, errW_some] <;> rfl), by first | exact Kd.R_nil _ _ _ _ _ | exact Kd.N_nil _ _ _ _ _ | exact Kd.V_nil _ _ _ _ _ | exact Kd.Q_nil _ _ _ _ _ | exact Kd.S_nil _ _ _ _ _, bq_⟩
      · rw [if_neg c5] at H
        have c5b0 : (((rd_T51 l0 a1).f0) == 11) = false := beq_eq_false_iff_ne.mpr c5
        have c5b1 : (((rd_T51 l0 a1).f0) != 11) = true := bne_iff_ne.mpr c5
        by_cases c8 : ((rd_T51 l0 a1).f0) = 8
        · rw [if_pos c8] at H
          have c8b0 : (((rd_T51 l0 a1).f0) == 8) = true := beq_iff_eq.mpr c8
          have c8b1 : (((rd_T51 l0 a1).f0) != 8) = false := bne_eq_false_iff_eq.mpr c8
          clear c8
          obtain ⟨y166, hy166⟩ : ∃ y_ : List Int, y_ = (([wrap64 ((wrap64 (a1 + ((rd_T51 l0 a1).f5))) + 1)] : List Int)) := ⟨_, rfl⟩
          replace H : (some y166) = some r := by first | (rw [hy166]; with_reducible exact H) | (have H2_ := (Option.bind_some _ _).symm.trans H; rw [hy166]; with_reducible exact H2_) | (have H2_ := (Option.bind_some _ _).symm.trans H; with_reducible exact H2_) | with_reducible exact H | (rw [hy166]; exact H) | exact H
          have Ny166 := Aside0.mk hy166
          clear hy166
          obtain rfl := Option.some.inj H
          have p164 : 0 ≤ (a1 : Int) := of_decide_eq_true (by first | (with_reducible assumption) | assumption)
          have q164 : a1 < (l0.length : Int) := of_decide_eq_true (by first | (with_reducible assumption) | assumption)
          obtain ⟨ad164, e164, hx164_0, hx164_1, hx164_2, hx164_3, hx164_4, hx164_5⟩ := at_T51 HR0.out a1 p164 q164
          cases e164
          replace p164 := eq_true p164
          replace q164 := eq_true q164
          go_enter Try.func61, Try.ntmps61
          go_wp2_with (first | ((with_reducible refine gate_dst (N := 5) rfl ?_); refine boxq_ (N := 5) (cs := #[.int .i64 0, .int .i64 0, .int .i64 0, .int .i64 0, .int .i64 0, .int .i64 0]) (t := 51) ?_; intro gb165 hg w9 hbox hb; have n0_ := Aside0.mk (below_step (bq_) hb); have n1_ := Aside0.mk (hbox); have n2_ := Aside0.mk ((by rw [hg]; exact (below_size (bq_)) : w.heap.size ≤ gb165)); have n3_ := Aside0.mk ((by rw [hg]; exact (below_size (bq_)) : w.heap.size ≤ gb165)); clear HB; have HB := n0_; have BK165 := n1_; have GW165 := n2_; have GE165 := n3_; clear n0_ n1_ n2_ n3_; clear hb hbox hg; have hcz10_0 := cq_ BK165.out 0 (.int .i64 0); have hcz10_1 := cq_ BK165.out 1 (.int .i64 0); have hcz10_2 := cq_ BK165.out 2 (.int .i64 0); have hcz10_3 := cq_ BK165.out 3 (.int .i64 0); have hcz10_4 := cq_ BK165.out 4 (.int .i64 0); have hcz10_5 := cq_ BK165.out 5 (.int .i64 0); have hfz10_0 := blk_frozen BK165.out 0; have hfz10_1 := blk_frozen BK165.out 1; have hfz10_2 := blk_frozen BK165.out 2; have hfz10_3 := blk_frozen BK165.out 3; have hfz10_4 := blk_frozen BK165.out 4; have hfz10_5 := blk_frozen BK165.out 5) | ((with_reducible refine gate_dst (N := 21) rfl ?_); refine Kd.R_lit (Kd.int .i64) _ 3 ?hg (N := 21) ?hd (xs := ([wrap64 ((wrap64 (a1 + ((rd_T51 l0 a1).f5))) + 1)] : List Int)) (inner := [.int .i64 (wrap64 ((wrap64 (a1 + ((rd_T51 l0 a1).f5))) + 1))]) (ok := fun _ => True) (okp := fun _ => True) ?hr ?hp (fun _ hk => hk) trivial (Below.refl _ _) (Nat.le_refl _) (by simp) ?_; (case hd => rfl); (case hg => rfl); (case hr => first | (go_simp; done) | (go_simp; rfl)); (case hp => exact (Reps.one (show Kd.M (Kd.int .i64) _ _ _ (wrap64 ((wrap64 (a1 + ((rd_T51 l0 a1).f5))) + 1)) [.int .i64 (wrap64 ((wrap64 (a1 + ((rd_T51 l0 a1).f5))) + 1))] from rfl) (Reps.none _ _))); intro v167 w11 ho12 hb hg_ hnew_; clear hg_ hnew_; (first | rw [← Ny166.out] at ho12 | (simp only [Int.reduceToNat] at ho12; rw [← Ny166.out] at ho12)); have n0_ := Aside0.mk (Kd.R_lower ho12 (below_size (bq_))); have n1_ := Aside0.mk (blk_below (g := gb165) (o := .cells #[.int .i64 ((rd_T51 l0 a1).f0), .int .i64 ((rd_T51 l0 a1).f1), .int .i64 ((rd_T51 l0 a1).f2), .int .i64 ((rd_T51 l0 a1).f3), .int .i64 ((rd_T51 l0 a1).f4), .int .i64 ((rd_T51 l0 a1).f5)] 51 (0, 0)) (by (with_reducible repeat (first | refine blk_drewN ?_ _ | refine blk_drew ?_ | refine blk_alloc ?_ _)); refine blk_put (cs := #[.int .i64 ((rd_T51 l0 a1).f0), .int .i64 ((rd_T51 l0 a1).f1), .int .i64 ((rd_T51 l0 a1).f2), .int .i64 ((rd_T51 l0 a1).f3), .int .i64 ((rd_T51 l0 a1).f4), .int .i64 0]) ?_ 5 _ rfl; (with_reducible repeat (first | refine blk_drewN ?_ _ | refine blk_drew ?_ | refine blk_alloc ?_ _)); refine blk_put (cs := #[.int .i64 ((rd_T51 l0 a1).f0), .int .i64 ((rd_T51 l0 a1).f1), .int .i64 ((rd_T51 l0 a1).f2), .int .i64 ((rd_T51 l0 a1).f3), .int .i64 0, .int .i64 0]) ?_ 4 _ rfl; (with_reducible repeat (first | refine blk_drewN ?_ _ | refine blk_drew ?_ | refine blk_alloc ?_ _)); refine blk_put (cs := #[.int .i64 ((rd_T51 l0 a1).f0), .int .i64 ((rd_T51 l0 a1).f1), .int .i64 ((rd_T51 l0 a1).f2), .int .i64 0, .int .i64 0, .int .i64 0]) ?_ 3 _ rfl; (with_reducible repeat (first | refine blk_drewN ?_ _ | refine blk_drew ?_ | refine blk_alloc ?_ _)); refine blk_put (cs := #[.int .i64 ((rd_T51 l0 a1).f0), .int .i64 ((rd_T51 l0 a1).f1), .int .i64 0, .int .i64 0, .int .i64 0, .int .i64 0]) ?_ 2 _ rfl; (with_reducible repeat (first | refine blk_drewN ?_ _ | refine blk_drew ?_ | refine blk_alloc ?_ _)); refine blk_put (cs := #[.int .i64 ((rd_T51 l0 a1).f0), .int .i64 0, .int .i64 0, .int .i64 0, .int .i64 0, .int .i64 0]) ?_ 1 _ rfl; (with_reducible repeat (first | refine blk_drewN ?_ _ | refine blk_drew ?_ | refine blk_alloc ?_ _)); refine blk_put (cs := #[.int .i64 0, .int .i64 0, .int .i64 0, .int .i64 0, .int .i64 0, .int .i64 0]) ?_ 0 _ rfl; (with_reducible repeat (first | refine blk_drewN ?_ _ | refine blk_drew ?_ | refine blk_alloc ?_ _)); exact BK165.out) hb); have n2_ := Aside0.mk (below_step (bq_) hb); clear BK165; clear HB; have HO168 := n0_; have BK165 := n1_; have HB := n2_; clear n0_ n1_ n2_; clear hb ho12))
          go_ret
          exact ⟨_, by first | rfl | (simp [errW_none, errW_some] <;> rfl) | (simp [*, errW_none, errW_some] <;> rfl), rq_ HO168.out, bq_⟩
        · rw [if_neg c8] at H
          have c8b0 : (((rd_T51 l0 a1).f0) == 8) = false := beq_eq_false_iff_ne.mpr c8
          have c8b1 : (((rd_T51 l0 a1).f0) != 8) = true := bne_iff_ne.mpr c8
          by_cases c13 : ((rd_T51 l0 a1).f0) = 9
          · rw [if_pos c13] at H
            have c13b0 : (((rd_T51 l0 a1).f0) == 9) = true := beq_iff_eq.mpr c13
            have c13b1 : (((rd_T51 l0 a1).f0) != 9) = false := bne_eq_false_iff_eq.mpr c13
            clear c13
            obtain ⟨y169, hy169⟩ : ∃ y_ : List Int, y_ = (([wrap64 (a1 + 1), wrap64 ((wrap64 (a1 + ((rd_T51 l0 a1).f5))) + 1)] : List Int)) := ⟨_, rfl⟩
            replace H : (some y169) = some r := by first | (rw [hy169]; with_reducible exact H) | (have H2_ := (Option.bind_some _ _).symm.trans H; rw [hy169]; with_reducible exact H2_) | (have H2_ := (Option.bind_some _ _).symm.trans H; with_reducible exact H2_) | with_reducible exact H | (rw [hy169]; exact H) | exact H
            have Ny169 := Aside0.mk hy169
            clear hy169
            obtain rfl := Option.some.inj H
            have p164 : 0 ≤ (a1 : Int) := of_decide_eq_true (by first | (with_reducible assumption) | assumption)
            have q164 : a1 < (l0.length : Int) := of_decide_eq_true (by first | (with_reducible assumption) | assumption)
            obtain ⟨ad164, e164, hx164_0, hx164_1, hx164_2, hx164_3, hx164_4, hx164_5⟩ := at_T51 HR0.out a1 p164 q164
            cases e164
            replace p164 := eq_true p164
            replace q164 := eq_true q164
            go_enter Try.func61, Try.ntmps61
            go_wp2_with (first | ((with_reducible refine gate_dst (N := 5) rfl ?_); refine boxq_ (N := 5) (cs := #[.int .i64 0, .int .i64 0, .int .i64 0, .int .i64 0, .int .i64 0, .int .i64 0]) (t := 51) ?_; intro gb165 hg w14 hbox hb; have n0_ := Aside0.mk (below_step (bq_) hb); have n1_ := Aside0.mk (hbox); have n2_ := Aside0.mk ((by rw [hg]; exact (below_size (bq_)) : w.heap.size ≤ gb165)); have n3_ := Aside0.mk ((by rw [hg]; exact (below_size (bq_)) : w.heap.size ≤ gb165)); clear HB; have HB := n0_; have BK165 := n1_; have GW165 := n2_; have GE165 := n3_; clear n0_ n1_ n2_ n3_; clear hb hbox hg; have hcz15_0 := cq_ BK165.out 0 (.int .i64 0); have hcz15_1 := cq_ BK165.out 1 (.int .i64 0); have hcz15_2 := cq_ BK165.out 2 (.int .i64 0); have hcz15_3 := cq_ BK165.out 3 (.int .i64 0); have hcz15_4 := cq_ BK165.out 4 (.int .i64 0); have hcz15_5 := cq_ BK165.out 5 (.int .i64 0); have hfz15_0 := blk_frozen BK165.out 0; have hfz15_1 := blk_frozen BK165.out 1; have hfz15_2 := blk_frozen BK165.out 2; have hfz15_3 := blk_frozen BK165.out 3; have hfz15_4 := blk_frozen BK165.out 4; have hfz15_5 := blk_frozen BK165.out 5) | ((with_reducible refine gate_dst (N := 32) rfl ?_); refine Kd.R_lit (Kd.int .i64) _ 3 ?hg (N := 32) ?hd (xs := ([wrap64 (a1 + 1), wrap64 ((wrap64 (a1 + ((rd_T51 l0 a1).f5))) + 1)] : List Int)) (inner := [.int .i64 (wrap64 (a1 + 1)), .int .i64 (wrap64 ((wrap64 (a1 + ((rd_T51 l0 a1).f5))) + 1))]) (ok := fun _ => True) (okp := fun _ => True) ?hr ?hp (fun _ hk => hk) trivial (Below.refl _ _) (Nat.le_refl _) (by simp) ?_; (case hd => rfl); (case hg => rfl); (case hr => first | (go_simp; done) | (go_simp; rfl)); (case hp => exact (Reps.one (show Kd.M (Kd.int .i64) _ _ _ (wrap64 (a1 + 1)) [.int .i64 (wrap64 (a1 + 1))] from rfl) (Reps.one (show Kd.M (Kd.int .i64) _ _ _ (wrap64 ((wrap64 (a1 + ((rd_T51 l0 a1).f5))) + 1)) [.int .i64 (wrap64 ((wrap64 (a1 + ((rd_T51 l0 a1).f5))) + 1))] from rfl) (Reps.none _ _)))); intro v170 w16 ho17 hb hg_ hnew_; clear hg_ hnew_; (first | rw [← Ny169.out] at ho17 | (simp only [Int.reduceToNat] at ho17; rw [← Ny169.out] at ho17)); have n0_ := Aside0.mk (Kd.R_lower ho17 (below_size (bq_))); have n1_ := Aside0.mk (blk_below (g := gb165) (o := .cells #[.int .i64 ((rd_T51 l0 a1).f0), .int .i64 ((rd_T51 l0 a1).f1), .int .i64 ((rd_T51 l0 a1).f2), .int .i64 ((rd_T51 l0 a1).f3), .int .i64 ((rd_T51 l0 a1).f4), .int .i64 ((rd_T51 l0 a1).f5)] 51 (0, 0)) (by (with_reducible repeat (first | refine blk_drewN ?_ _ | refine blk_drew ?_ | refine blk_alloc ?_ _)); refine blk_put (cs := #[.int .i64 ((rd_T51 l0 a1).f0), .int .i64 ((rd_T51 l0 a1).f1), .int .i64 ((rd_T51 l0 a1).f2), .int .i64 ((rd_T51 l0 a1).f3), .int .i64 ((rd_T51 l0 a1).f4), .int .i64 0]) ?_ 5 _ rfl; (with_reducible repeat (first | refine blk_drewN ?_ _ | refine blk_drew ?_ | refine blk_alloc ?_ _)); refine blk_put (cs := #[.int .i64 ((rd_T51 l0 a1).f0), .int .i64 ((rd_T51 l0 a1).f1), .int .i64 ((rd_T51 l0 a1).f2), .int .i64 ((rd_T51 l0 a1).f3), .int .i64 0, .int .i64 0]) ?_ 4 _ rfl; (with_reducible repeat (first | refine blk_drewN ?_ _ | refine blk_drew ?_ | refine blk_alloc ?_ _)); refine blk_put (cs := #[.int .i64 ((rd_T51 l0 a1).f0), .int .i64 ((rd_T51 l0 a1).f1), .int .i64 ((rd_T51 l0 a1).f2), .int .i64 0, .int .i64 0, .int .i64 0]) ?_ 3 _ rfl; (with_reducible repeat (first | refine blk_drewN ?_ _ | refine blk_drew ?_ | refine blk_alloc ?_ _)); refine blk_put (cs := #[.int .i64 ((rd_T51 l0 a1).f0), .int .i64 ((rd_T51 l0 a1).f1), .int .i64 0, .int .i64 0, .int .i64 0, .int .i64 0]) ?_ 2 _ rfl; (with_reducible repeat (first | refine blk_drewN ?_ _ | refine blk_drew ?_ | refine blk_alloc ?_ _)); refine blk_put (cs := #[.int .i64 ((rd_T51 l0 a1).f0), .int .i64 0, .int .i64 0, .int .i64 0, .int .i64 0, .int .i64 0]) ?_ 1 _ rfl; (with_reducible repeat (first | refine blk_drewN ?_ _ | refine blk_drew ?_ | refine blk_alloc ?_ _)); refine blk_put (cs := #[.int .i64 0, .int .i64 0, .int .i64 0, .int .i64 0, .int .i64 0, .int .i64 0]) ?_ 0 _ rfl; (with_reducible repeat (first | refine blk_drewN ?_ _ | refine blk_drew ?_ | refine blk_alloc ?_ _)); exact BK165.out) hb); have n2_ := Aside0.mk (below_step (bq_) hb); clear BK165; clear HB; have HO171 := n0_; have BK165 := n1_; have HB := n2_; clear n0_ n1_ n2_; clear hb ho17))
            go_ret
            exact ⟨_, by first | rfl | (simp [errW_none, errW_some] <;> rfl) | (simp [*, errW_none, errW_some] <;> rfl), rq_ HO171.out, bq_⟩
          · rw [if_neg c13] at H
            have c13b0 : (((rd_T51 l0 a1).f0) == 9) = false := beq_eq_false_iff_ne.mpr c13
            have c13b1 : (((rd_T51 l0 a1).f0) != 9) = true := bne_iff_ne.mpr c13
            by_cases c18 : ((rd_T51 l0 a1).f0) = 10
            · rw [if_pos c18] at H
              have c18b0 : (((rd_T51 l0 a1).f0) == 10) = true := beq_iff_eq.mpr c18
              have c18b1 : (((rd_T51 l0 a1).f0) != 10) = false := bne_eq_false_iff_eq.mpr c18
              clear c18
              obtain ⟨y172, hy172⟩ : ∃ y_ : List Int, y_ = (([wrap64 (a1 + 1), wrap64 ((wrap64 (a1 + ((rd_T51 l0 a1).f5))) + 1)] : List Int)) := ⟨_, rfl⟩
              replace H : (some y172) = some r := by first | (rw [hy172]; with_reducible exact H) | (have H2_ := (Option.bind_some _ _).symm.trans H; rw [hy172]; with_reducible exact H2_) | (have H2_ := (Option.bind_some _ _).symm.trans H; with_reducible exact H2_) | with_reducible exact H | (rw [hy172]; exact H) | exact H
              have Ny172 := Aside0.mk hy172
              clear hy172
              obtain rfl := Option.some.inj H
              have p164 : 0 ≤ (a1 : Int) := of_decide_eq_true (by first | (with_reducible assumption) | assumption)
              have q164 : a1 < (l0.length : Int) := of_decide_eq_true (by first | (with_reducible assumption) | assumption)
              obtain ⟨ad164, e164, hx164_0, hx164_1, hx164_2, hx164_3, hx164_4, hx164_5⟩ := at_T51 HR0.out a1 p164 q164
              cases e164
              replace p164 := eq_true p164
              replace q164 := eq_true q164
              go_enter Try.func61, Try.ntmps61
              go_wp2_with (first | ((with_reducible refine gate_dst (N := 5) rfl ?_); refine boxq_ (N := 5) (cs := #[.int .i64 0, .int .i64 0, .int .i64 0, .int .i64 0, .int .i64 0, .int .i64 0]) (t := 51) ?_; intro gb165 hg w19 hbox hb; have n0_ := Aside0.mk (below_step (bq_) hb); have n1_ := Aside0.mk (hbox); have n2_ := Aside0.mk ((by rw [hg]; exact (below_size (bq_)) : w.heap.size ≤ gb165)); have n3_ := Aside0.mk ((by rw [hg]; exact (below_size (bq_)) : w.heap.size ≤ gb165)); clear HB; have HB := n0_; have BK165 := n1_; have GW165 := n2_; have GE165 := n3_; clear n0_ n1_ n2_ n3_; clear hb hbox hg; have hcz20_0 := cq_ BK165.out 0 (.int .i64 0); have hcz20_1 := cq_ BK165.out 1 (.int .i64 0); have hcz20_2 := cq_ BK165.out 2 (.int .i64 0); have hcz20_3 := cq_ BK165.out 3 (.int .i64 0); have hcz20_4 := cq_ BK165.out 4 (.int .i64 0); have hcz20_5 := cq_ BK165.out 5 (.int .i64 0); have hfz20_0 := blk_frozen BK165.out 0; have hfz20_1 := blk_frozen BK165.out 1; have hfz20_2 := blk_frozen BK165.out 2; have hfz20_3 := blk_frozen BK165.out 3; have hfz20_4 := blk_frozen BK165.out 4; have hfz20_5 := blk_frozen BK165.out 5) | ((with_reducible refine gate_dst (N := 32) rfl ?_); refine Kd.R_lit (Kd.int .i64) _ 3 ?hg (N := 32) ?hd (xs := ([wrap64 (a1 + 1), wrap64 ((wrap64 (a1 + ((rd_T51 l0 a1).f5))) + 1)] : List Int)) (inner := [.int .i64 (wrap64 (a1 + 1)), .int .i64 (wrap64 ((wrap64 (a1 + ((rd_T51 l0 a1).f5))) + 1))]) (ok := fun _ => True) (okp := fun _ => True) ?hr ?hp (fun _ hk => hk) trivial (Below.refl _ _) (Nat.le_refl _) (by simp) ?_; (case hd => rfl); (case hg => rfl); (case hr => first | (go_simp; done) | (go_simp; rfl)); (case hp => exact (Reps.one (show Kd.M (Kd.int .i64) _ _ _ (wrap64 (a1 + 1)) [.int .i64 (wrap64 (a1 + 1))] from rfl) (Reps.one (show Kd.M (Kd.int .i64) _ _ _ (wrap64 ((wrap64 (a1 + ((rd_T51 l0 a1).f5))) + 1)) [.int .i64 (wrap64 ((wrap64 (a1 + ((rd_T51 l0 a1).f5))) + 1))] from rfl) (Reps.none _ _)))); intro v173 w21 ho22 hb hg_ hnew_; clear hg_ hnew_; (first | rw [← Ny172.out] at ho22 | (simp only [Int.reduceToNat] at ho22; rw [← Ny172.out] at ho22)); have n0_ := Aside0.mk (Kd.R_lower ho22 (below_size (bq_))); have n1_ := Aside0.mk (blk_below (g := gb165) (o := .cells #[.int .i64 ((rd_T51 l0 a1).f0), .int .i64 ((rd_T51 l0 a1).f1), .int .i64 ((rd_T51 l0 a1).f2), .int .i64 ((rd_T51 l0 a1).f3), .int .i64 ((rd_T51 l0 a1).f4), .int .i64 ((rd_T51 l0 a1).f5)] 51 (0, 0)) (by (with_reducible repeat (first | refine blk_drewN ?_ _ | refine blk_drew ?_ | refine blk_alloc ?_ _)); refine blk_put (cs := #[.int .i64 ((rd_T51 l0 a1).f0), .int .i64 ((rd_T51 l0 a1).f1), .int .i64 ((rd_T51 l0 a1).f2), .int .i64 ((rd_T51 l0 a1).f3), .int .i64 ((rd_T51 l0 a1).f4), .int .i64 0]) ?_ 5 _ rfl; (with_reducible repeat (first | refine blk_drewN ?_ _ | refine blk_drew ?_ | refine blk_alloc ?_ _)); refine blk_put (cs := #[.int .i64 ((rd_T51 l0 a1).f0), .int .i64 ((rd_T51 l0 a1).f1), .int .i64 ((rd_T51 l0 a1).f2), .int .i64 ((rd_T51 l0 a1).f3), .int .i64 0, .int .i64 0]) ?_ 4 _ rfl; (with_reducible repeat (first | refine blk_drewN ?_ _ | refine blk_drew ?_ | refine blk_alloc ?_ _)); refine blk_put (cs := #[.int .i64 ((rd_T51 l0 a1).f0), .int .i64 ((rd_T51 l0 a1).f1), .int .i64 ((rd_T51 l0 a1).f2), .int .i64 0, .int .i64 0, .int .i64 0]) ?_ 3 _ rfl; (with_reducible repeat (first | refine blk_drewN ?_ _ | refine blk_drew ?_ | refine blk_alloc ?_ _)); refine blk_put (cs := #[.int .i64 ((rd_T51 l0 a1).f0), .int .i64 ((rd_T51 l0 a1).f1), .int .i64 0, .int .i64 0, .int .i64 0, .int .i64 0]) ?_ 2 _ rfl; (with_reducible repeat (first | refine blk_drewN ?_ _ | refine blk_drew ?_ | refine blk_alloc ?_ _)); refine blk_put (cs := #[.int .i64 ((rd_T51 l0 a1).f0), .int .i64 0, .int .i64 0, .int .i64 0, .int .i64 0, .int .i64 0]) ?_ 1 _ rfl; (with_reducible repeat (first | refine blk_drewN ?_ _ | refine blk_drew ?_ | refine blk_alloc ?_ _)); refine blk_put (cs := #[.int .i64 0, .int .i64 0, .int .i64 0, .int .i64 0, .int .i64 0, .int .i64 0]) ?_ 0 _ rfl; (with_reducible repeat (first | refine blk_drewN ?_ _ | refine blk_drew ?_ | refine blk_alloc ?_ _)); exact BK165.out) hb); have n2_ := Aside0.mk (below_step (bq_) hb); clear BK165; clear HB; have HO174 := n0_; have BK165 := n1_; have HB := n2_; clear n0_ n1_ n2_; clear hb ho22))
              go_ret
              exact ⟨_, by first | rfl | (simp [errW_none, errW_some] <;> rfl) | (simp [*, errW_none, errW_some] <;> rfl), rq_ HO174.out, bq_⟩
            · rw [if_neg c18] at H
              have c18b0 : (((rd_T51 l0 a1).f0) == 10) = false := beq_eq_false_iff_ne.mpr c18
              have c18b1 : (((rd_T51 l0 a1).f0) != 10) = true := bne_iff_ne.mpr c18
              obtain ⟨y175, hy175⟩ : ∃ y_ : List Int, y_ = (([wrap64 (a1 + 1)] : List Int)) := ⟨_, rfl⟩
              replace H : (some y175) = some r := by first | (rw [hy175]; with_reducible exact H) | (have H2_ := (Option.bind_some _ _).symm.trans H; rw [hy175]; with_reducible exact H2_) | (have H2_ := (Option.bind_some _ _).symm.trans H; with_reducible exact H2_) | with_reducible exact H | (rw [hy175]; exact H) | exact H
              have Ny175 := Aside0.mk hy175
              clear hy175
              obtain rfl := Option.some.inj H
              have p164 : 0 ≤ (a1 : Int) := of_decide_eq_true (by first | (with_reducible assumption) | assumption)
              have q164 : a1 < (l0.length : Int) := of_decide_eq_true (by first | (with_reducible assumption) | assumption)
              obtain ⟨ad164, e164, hx164_0, hx164_1, hx164_2, hx164_3, hx164_4, hx164_5⟩ := at_T51 HR0.out a1 p164 q164
              cases e164
              replace p164 := eq_true p164
              replace q164 := eq_true q164
              go_enter Try.func61, Try.ntmps61
              go_wp2_with (first | ((with_reducible refine gate_dst (N := 5) rfl ?_); refine boxq_ (N := 5) (cs := #[.int .i64 0, .int .i64 0, .int .i64 0, .int .i64 0, .int .i64 0, .int .i64 0]) (t := 51) ?_; intro gb165 hg w23 hbox hb; have n0_ := Aside0.mk (below_step (bq_) hb); have n1_ := Aside0.mk (hbox); have n2_ := Aside0.mk ((by rw [hg]; exact (below_size (bq_)) : w.heap.size ≤ gb165)); have n3_ := Aside0.mk ((by rw [hg]; exact (below_size (bq_)) : w.heap.size ≤ gb165)); clear HB; have HB := n0_; have BK165 := n1_; have GW165 := n2_; have GE165 := n3_; clear n0_ n1_ n2_ n3_; clear hb hbox hg; have hcz24_0 := cq_ BK165.out 0 (.int .i64 0); have hcz24_1 := cq_ BK165.out 1 (.int .i64 0); have hcz24_2 := cq_ BK165.out 2 (.int .i64 0); have hcz24_3 := cq_ BK165.out 3 (.int .i64 0); have hcz24_4 := cq_ BK165.out 4 (.int .i64 0); have hcz24_5 := cq_ BK165.out 5 (.int .i64 0); have hfz24_0 := blk_frozen BK165.out 0; have hfz24_1 := blk_frozen BK165.out 1; have hfz24_2 := blk_frozen BK165.out 2; have hfz24_3 := blk_frozen BK165.out 3; have hfz24_4 := blk_frozen BK165.out 4; have hfz24_5 := blk_frozen BK165.out 5) | ((with_reducible refine gate_dst (N := 35) rfl ?_); refine Kd.R_lit (Kd.int .i64) _ 3 ?hg (N := 35) ?hd (xs := ([wrap64 (a1 + 1)] : List Int)) (inner := [.int .i64 (wrap64 (a1 + 1))]) (ok := fun _ => True) (okp := fun _ => True) ?hr ?hp (fun _ hk => hk) trivial (Below.refl _ _) (Nat.le_refl _) (by simp) ?_; (case hd => rfl); (case hg => rfl); (case hr => first | (go_simp; done) | (go_simp; rfl)); (case hp => exact (Reps.one (show Kd.M (Kd.int .i64) _ _ _ (wrap64 (a1 + 1)) [.int .i64 (wrap64 (a1 + 1))] from rfl) (Reps.none _ _))); intro v176 w25 ho26 hb hg_ hnew_; clear hg_ hnew_; (first | rw [← Ny175.out] at ho26 | (simp only [Int.reduceToNat] at ho26; rw [← Ny175.out] at ho26)); have n0_ := Aside0.mk (Kd.R_lower ho26 (below_size (bq_))); have n1_ := Aside0.mk (blk_below (g := gb165) (o := .cells #[.int .i64 ((rd_T51 l0 a1).f0), .int .i64 ((rd_T51 l0 a1).f1), .int .i64 ((rd_T51 l0 a1).f2), .int .i64 ((rd_T51 l0 a1).f3), .int .i64 ((rd_T51 l0 a1).f4), .int .i64 ((rd_T51 l0 a1).f5)] 51 (0, 0)) (by (with_reducible repeat (first | refine blk_drewN ?_ _ | refine blk_drew ?_ | refine blk_alloc ?_ _)); refine blk_put (cs := #[.int .i64 ((rd_T51 l0 a1).f0), .int .i64 ((rd_T51 l0 a1).f1), .int .i64 ((rd_T51 l0 a1).f2), .int .i64 ((rd_T51 l0 a1).f3), .int .i64 ((rd_T51 l0 a1).f4), .int .i64 0]) ?_ 5 _ rfl; (with_reducible repeat (first | refine blk_drewN ?_ _ | refine blk_drew ?_ | refine blk_alloc ?_ _)); refine blk_put (cs := #[.int .i64 ((rd_T51 l0 a1).f0), .int .i64 ((rd_T51 l0 a1).f1), .int .i64 ((rd_T51 l0 a1).f2), .int .i64 ((rd_T51 l0 a1).f3), .int .i64 0, .int .i64 0]) ?_ 4 _ rfl; (with_reducible repeat (first | refine blk_drewN ?_ _ | refine blk_drew ?_ | refine blk_alloc ?_ _)); refine blk_put (cs := #[.int .i64 ((rd_T51 l0 a1).f0), .int .i64 ((rd_T51 l0 a1).f1), .int .i64 ((rd_T51 l0 a1).f2), .int .i64 0, .int .i64 0, .int .i64 0]) ?_ 3 _ rfl; (with_reducible repeat (first | refine blk_drewN ?_ _ | refine blk_drew ?_ | refine blk_alloc ?_ _)); refine blk_put (cs := #[.int .i64 ((rd_T51 l0 a1).f0), .int .i64 ((rd_T51 l0 a1).f1), .int .i64 0, .int .i64 0, .int .i64 0, .int .i64 0]) ?_ 2 _ rfl; (with_reducible repeat (first | refine blk_drewN ?_ _ | refine blk_drew ?_ | refine blk_alloc ?_ _)); refine blk_put (cs := #[.int .i64 ((rd_T51 l0 a1).f0), .int .i64 0, .int .i64 0, .int .i64 0, .int .i64 0, .int .i64 0]) ?_ 1 _ rfl; (with_reducible repeat (first | refine blk_drewN ?_ _ | refine blk_drew ?_ | refine blk_alloc ?_ _)); refine blk_put (cs := #[.int .i64 0, .int .i64 0, .int .i64 0, .int .i64 0, .int .i64 0, .int .i64 0]) ?_ 0 _ rfl; (with_reducible repeat (first | refine blk_drewN ?_ _ | refine blk_drew ?_ | refine blk_alloc ?_ _)); exact BK165.out) hb); have n2_ := Aside0.mk (below_step (bq_) hb); clear BK165; clear HB; have HO177 := n0_; have BK165 := n1_; have HB := n2_; clear n0_ n1_ n2_; clear hb ho26))
              go_ret
              exact ⟨_, by first | rfl | (simp [errW_none, errW_some] <;> rfl) | (simp [*, errW_none, errW_some] <;> rfl), rq_ HO177.out, bq_⟩
    · rw [if_neg c4] at H
      exact absurd H (by simp)
  · rw [if_neg c3] at H
    exact absurd H (by simp)
end Go.Proofs.Ytcmhkgpalfljbaa.PIC
