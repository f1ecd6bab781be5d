import Derived.Test.YtcmhkgpalfljbaaPPAx0
import Derived.Test.YtcmhkgpalfljbaaPPAx1
import Derived.Test.YtcmhkgpalfljbaaPPAx2
namespace Go.Proofs.Ytcmhkgpalfljbaa.PPA
open Go.RowKit Go.Proofs.YtcmhkgpalfljbaaW.PrintWords Go.Proofs.YtcmhkgpalfljbaaW.PrintLast Go.Proofs.YtcmhkgpalfljbaaW.PrintMore
attribute [local go_sem] max2_int min2_int max_two min_two max_three min_three max_four min_four   -- for this text's walks alone
set_option linter.unusedVariables false
set_option linter.unusedSimpArgs false
def spec_GoodProgram.l0 : Nat → List (S51) → List (S51) → Int → Int → Option (Bool)
 | 0, _, _, _, _ => none
 | k + 1, x0, x5, x6, x7 => if x7 < x6 then (if 0 ≤ x7 then (if x7 < (x5.length : Int) then ((spec_l2Step.f k ((rd_T51 x5 x7).f0) ((rd_T51 x5 x7).f1) ((rd_T51 x5 x7).f2) ((rd_T51 x5 x7).f3) ((rd_T51 x5 x7).f4) ((rd_T51 x5 x7).f5)).bind fun t123 => (if t123 = true then (if ((rd_T51 x5 x7).f5) > 0 then (if (wrap64 ((wrap64 (x7 + ((rd_T51 x5 x7).f5))) + 1)) ≥ (x0.length : Int) then (some false) else (spec_GoodProgram.l0 k x0 x5 x6 (wrap64 (x7 + 1)))) else (spec_GoodProgram.l0 k x0 x5 x6 (wrap64 (x7 + 1)))) else (some false))) else (none)) else (none)) else ((spec_l1In.f (x0.length : Int) 1 20).bind fun t124 => (if t124 = true then (if 0 ≤ (wrap64 ((x0.length : Int) - 1)) then (if (wrap64 ((x0.length : Int) - 1)) < (x0.length : Int) then (some (((rd_T51 x0 (wrap64 ((x0.length : Int) - 1))).f0) == 11)) else (none)) else (none)) else (some false)))
def spec_GoodProgram.f (k : Nat) (l0 : List (S51)) : Option (Bool) := spec_GoodProgram.l0 k l0 l0 (l0.length : Int) 0
set_option maxHeartbeats 8000000 in
set_option maxRecDepth 100000 in
theorem spec_GoodProgram.calls (k : Nat) (A0 : Option Addr) (c0 : Nat) (l0 : List (S51)) (r : Bool) (w : World) (hr0 : Kd.C k51 w A0 l0.length l0) (hc0 : l0.length ≤ c0) (h : spec_GoodProgram.f k l0 = some r) :
  Calls Try.prog 47 #[.slice A0 l0.length c0] w fun e w' => e = .returned (.bool r) ∧ Below w.heap.size w w' := by
 have hu51 := Try.underlying51
 have HR0 := am_ hr0
 have HC0 := am_ hc0
 clear hr0 hc0
 have HB := am_ (Below.refl w.heap.size w)
 have H : (spec_GoodProgram.l0 k l0 l0 (l0.length : Int) 0) = some r := h
 clear h
 have H' := am_ H
 clear H
 go_enter Try.func47, Try.ntmps47
 go_wp2
 go_loopg [7] k (fun kq v7 w' => ∃ (x7_1 : Int), v7 = .int .i64 x7_1 ∧ Aside0 (spec_GoodProgram.l0 kq l0 l0 (l0.length : Int) x7_1 = some r) ∧ Aside0 (kq ≤ k) ∧ Aside0 (Below w.heap.size w w'))
 case atStart => exact ⟨(0), y14_, H', ⟨Nat.le_refl _⟩, ⟨bq_⟩⟩
 case round =>
  clear H'
  obtain ⟨x7_1, rfl, HA, HK1, HB⟩ := hrel
  cases gk with
  | zero => exact absurd HA.out (by simp [spec_GoodProgram.l0])
  | succ k1 =>
   have H := HA.out
   clear HA
   simp only [spec_GoodProgram.l0] at H
   by_cases c2 : x7_1 < (l0.length : Int)
   ·rw [if_pos c2] at H
    have c2b0 : decide (x7_1 < (l0.length : Int)) = true := decide_eq_true c2
    clear c2
    by_cases c3 : 0 ≤ x7_1
    ·rw [if_pos c3] at H
     have c3b0 : decide (0 ≤ x7_1) = true := decide_eq_true c3
     clear c3
     by_cases c4 : x7_1 < (l0.length : Int)
     ·rw [if_pos c4] at H
      have c4b0 : decide (x7_1 < (l0.length : Int)) = true := decide_eq_true c4
      clear c4
      replace H := Option.bind_eq_some_iff.mp H
      obtain ⟨t123, A50, H⟩ := H
      replace H : (if t123 = true then (if ((rd_T51 l0 x7_1).f5) > 0 then (if (wrap64 ((wrap64 (x7_1 + ((rd_T51 l0 x7_1).f5))) + 1)) ≥ (l0.length : Int) then (some false) else (spec_GoodProgram.l0 k1 l0 l0 (l0.length : Int) (wrap64 (x7_1 + 1)))) else (spec_GoodProgram.l0 k1 l0 l0 (l0.length : Int) (wrap64 (x7_1 + 1)))) else (some false)) = some r := H
      have A5 := am_ A50
      clear A50
      by_cases c6 : t123 = true
      ·subst c6
       have H1 : (if ((rd_T51 l0 x7_1).f5) > 0 then (if (wrap64 ((wrap64 (x7_1 + ((rd_T51 l0 x7_1).f5))) + 1)) ≥ (l0.length : Int) then (some false) else (spec_GoodProgram.l0 k1 l0 l0 (l0.length : Int) (wrap64 (x7_1 + 1)))) else (spec_GoodProgram.l0 k1 l0 l0 (l0.length : Int) (wrap64 (x7_1 + 1)))) = some r := by rw [if_pos rfl] at H; exact H
       clear H
       have H := H1
       clear H1
       by_cases c7 : ((rd_T51 l0 x7_1).f5) > 0
       ·rw [if_pos c7] at H
        have c7b0 : decide (0 < ((rd_T51 l0 x7_1).f5)) = true := decide_eq_true c7
        clear c7
        by_cases c8 : (wrap64 ((wrap64 (x7_1 + ((rd_T51 l0 x7_1).f5))) + 1)) ≥ (l0.length : Int)
        ·rw [if_pos c8] at H
         have c8b0 : decide ((l0.length : Int) ≤ (wrap64 ((wrap64 (x7_1 + ((rd_T51 l0 x7_1).f5))) + 1))) = true := decide_eq_true c8
         clear c8
         obtain rfl := Option.some.inj H
         have p121 : 0 ≤ (x7_1 : Int) := od_
         have q121 : x7_1 < (l0.length : Int) := od_
         obtain ⟨ad121, e121, hx121_0, hx121_1, hx121_2, hx121_3, hx121_4, hx121_5⟩ := at_T51 HR0.out x7_1 p121 q121
         cases e121
         replace hx121_0 := (HB.out.cell (World.block_lt_of_cell? w _ hx121_0)).trans hx121_0
         replace hx121_1 := (HB.out.cell (World.block_lt_of_cell? w _ hx121_1)).trans hx121_1
         replace hx121_2 := (HB.out.cell (World.block_lt_of_cell? w _ hx121_2)).trans hx121_2
         replace hx121_3 := (HB.out.cell (World.block_lt_of_cell? w _ hx121_3)).trans hx121_3
         replace hx121_4 := (HB.out.cell (World.block_lt_of_cell? w _ hx121_4)).trans hx121_4
         replace hx121_5 := (HB.out.cell (World.block_lt_of_cell? w _ hx121_5)).trans hx121_5
         replace p121 := eq_true p121
         replace q121 := eq_true q121
         go_wp2_with (first | ((with_reducible refine gate_dst (N := 4) rfl ?_); (try (refine gate_guard (by rfl) ?_; dsimp only)); refine boxq_ (N := 4) (cs := #[.int .i64 0, .int .i64 0, .int .i64 0, .int .i64 0, .int .i64 0, .int .i64 0]) (t := 51) ?_; intro gb122 hg w9 hbox hb; have BK122 := am_ (hbox); have GW122 := gz_ hg; have GE122 := gz_ hg; replace HB := bs_ hb; clear hb hbox hg; have hcz10_0 := cq_ BK122.out 0 (.int .i64 0); have hcz10_1 := cq_ BK122.out 1 (.int .i64 0); have hcz10_2 := cq_ BK122.out 2 (.int .i64 0); have hcz10_3 := cq_ BK122.out 3 (.int .i64 0); have hcz10_4 := cq_ BK122.out 4 (.int .i64 0); have hcz10_5 := cq_ BK122.out 5 (.int .i64 0); have hfz10_0 := blk_frozen BK122.out 0; have hfz10_1 := blk_frozen BK122.out 1; have hfz10_2 := blk_frozen BK122.out 2; have hfz10_3 := blk_frozen BK122.out 3; have hfz10_4 := blk_frozen BK122.out 4; have hfz10_5 := blk_frozen BK122.out 5) | ((with_reducible refine gl_ 71 rfl ?_); refine goesM_ (some 13) Try.func71 #[.agg #[.int .i64 ((rd_T51 l0 x7_1).f0), .int .i64 ((rd_T51 l0 x7_1).f1), .int .i64 ((rd_T51 l0 x7_1).f2), .int .i64 ((rd_T51 l0 x7_1).f3), .int .i64 ((rd_T51 l0 x7_1).f4), .int .i64 ((rd_T51 l0 x7_1).f5)]] ?_; (with_reducible refine (spec_l2Step.calls k1 ((rd_T51 l0 x7_1).f0) ((rd_T51 l0 x7_1).f1) ((rd_T51 l0 x7_1).f2) ((rd_T51 l0 x7_1).f3) ((rd_T51 l0 x7_1).f4) ((rd_T51 l0 x7_1).f5) true _ A5.out).mono ?_); rintro e w11 ⟨rfl, hb⟩; refine ⟨_, rfl, ?_⟩; replace BK122 := am_ (blk_below (bu_ BK122.out) hb); replace HB := bs_ hb; (try clear hb); have hcz12_0 := cq_ BK122.out 0 (.int .i64 ((rd_T51 l0 x7_1).f0)); have hcz12_1 := cq_ BK122.out 1 (.int .i64 ((rd_T51 l0 x7_1).f1)); have hcz12_2 := cq_ BK122.out 2 (.int .i64 ((rd_T51 l0 x7_1).f2)); have hcz12_3 := cq_ BK122.out 3 (.int .i64 ((rd_T51 l0 x7_1).f3)); have hcz12_4 := cq_ BK122.out 4 (.int .i64 ((rd_T51 l0 x7_1).f4)); have hcz12_5 := cq_ BK122.out 5 (.int .i64 ((rd_T51 l0 x7_1).f5)); have hfz12_0 := blk_frozen BK122.out 0; have hfz12_1 := blk_frozen BK122.out 1; have hfz12_2 := blk_frozen BK122.out 2; have hfz12_3 := blk_frozen BK122.out 3; have hfz12_4 := blk_frozen BK122.out 4; have hfz12_5 := blk_frozen BK122.out 5))
         go_ret
         exact ⟨by first | rfl | (simp [errW_none, errW_some] <;> rfl) | (simp [*, errW_none, errW_some] <;> rfl), bq_⟩
        ·rw [if_neg c8] at H
         have c8b0 : decide ((l0.length : Int) ≤ (wrap64 ((wrap64 (x7_1 + ((rd_T51 l0 x7_1).f5))) + 1))) = false := decide_eq_false c8
         clear c8
         have H' := am_ H
         clear H
         have p121 : 0 ≤ (x7_1 : Int) := od_
         have q121 : x7_1 < (l0.length : Int) := od_
         obtain ⟨ad121, e121, hx121_0, hx121_1, hx121_2, hx121_3, hx121_4, hx121_5⟩ := at_T51 HR0.out x7_1 p121 q121
         cases e121
         replace hx121_0 := (HB.out.cell (World.block_lt_of_cell? w _ hx121_0)).trans hx121_0
         replace hx121_1 := (HB.out.cell (World.block_lt_of_cell? w _ hx121_1)).trans hx121_1
         replace hx121_2 := (HB.out.cell (World.block_lt_of_cell? w _ hx121_2)).trans hx121_2
         replace hx121_3 := (HB.out.cell (World.block_lt_of_cell? w _ hx121_3)).trans hx121_3
         replace hx121_4 := (HB.out.cell (World.block_lt_of_cell? w _ hx121_4)).trans hx121_4
         replace hx121_5 := (HB.out.cell (World.block_lt_of_cell? w _ hx121_5)).trans hx121_5
         replace p121 := eq_true p121
         replace q121 := eq_true q121
         go_wp2_with (first | ((with_reducible refine gate_dst (N := 4) rfl ?_); (try (refine gate_guard (by rfl) ?_; dsimp only)); refine boxq_ (N := 4) (cs := #[.int .i64 0, .int .i64 0, .int .i64 0, .int .i64 0, .int .i64 0, .int .i64 0]) (t := 51) ?_; intro gb122 hg w13 hbox hb; have BK122 := am_ (hbox); have GW122 := gz_ hg; have GE122 := gz_ hg; replace HB := bs_ hb; clear hb hbox hg; have hcz14_0 := cq_ BK122.out 0 (.int .i64 0); have hcz14_1 := cq_ BK122.out 1 (.int .i64 0); have hcz14_2 := cq_ BK122.out 2 (.int .i64 0); have hcz14_3 := cq_ BK122.out 3 (.int .i64 0); have hcz14_4 := cq_ BK122.out 4 (.int .i64 0); have hcz14_5 := cq_ BK122.out 5 (.int .i64 0); have hfz14_0 := blk_frozen BK122.out 0; have hfz14_1 := blk_frozen BK122.out 1; have hfz14_2 := blk_frozen BK122.out 2; have hfz14_3 := blk_frozen BK122.out 3; have hfz14_4 := blk_frozen BK122.out 4; have hfz14_5 := blk_frozen BK122.out 5) | ((with_reducible refine gl_ 71 rfl ?_); refine goesM_ (some 13) Try.func71 #[.agg #[.int .i64 ((rd_T51 l0 x7_1).f0), .int .i64 ((rd_T51 l0 x7_1).f1), .int .i64 ((rd_T51 l0 x7_1).f2), .int .i64 ((rd_T51 l0 x7_1).f3), .int .i64 ((rd_T51 l0 x7_1).f4), .int .i64 ((rd_T51 l0 x7_1).f5)]] ?_; (with_reducible refine (spec_l2Step.calls k1 ((rd_T51 l0 x7_1).f0) ((rd_T51 l0 x7_1).f1) ((rd_T51 l0 x7_1).f2) ((rd_T51 l0 x7_1).f3) ((rd_T51 l0 x7_1).f4) ((rd_T51 l0 x7_1).f5) true _ A5.out).mono ?_); rintro e w15 ⟨rfl, hb⟩; refine ⟨_, rfl, ?_⟩; replace BK122 := am_ (blk_below (bu_ BK122.out) hb); replace HB := bs_ hb; (try clear hb); have hcz16_0 := cq_ BK122.out 0 (.int .i64 ((rd_T51 l0 x7_1).f0)); have hcz16_1 := cq_ BK122.out 1 (.int .i64 ((rd_T51 l0 x7_1).f1)); have hcz16_2 := cq_ BK122.out 2 (.int .i64 ((rd_T51 l0 x7_1).f2)); have hcz16_3 := cq_ BK122.out 3 (.int .i64 ((rd_T51 l0 x7_1).f3)); have hcz16_4 := cq_ BK122.out 4 (.int .i64 ((rd_T51 l0 x7_1).f4)); have hcz16_5 := cq_ BK122.out 5 (.int .i64 ((rd_T51 l0 x7_1).f5)); have hfz16_0 := blk_frozen BK122.out 0; have hfz16_1 := blk_frozen BK122.out 1; have hfz16_2 := blk_frozen BK122.out 2; have hfz16_3 := blk_frozen BK122.out 3; have hfz16_4 := blk_frozen BK122.out 4; have hfz16_5 := blk_frozen BK122.out 5))
         go_roundg k1
         case measure => have := HK1.out; omega
         case rel => exact ⟨(wrap64 (x7_1 + 1)), y14_, H', ⟨by have := HK1.out; omega⟩, ⟨bq_⟩⟩
       ·rw [if_neg c7] at H
        have c7b0 : decide (0 < ((rd_T51 l0 x7_1).f5)) = false := decide_eq_false c7
        clear c7
        have H' := am_ H
        clear H
        have p121 : 0 ≤ (x7_1 : Int) := od_
        have q121 : x7_1 < (l0.length : Int) := od_
        obtain ⟨ad121, e121, hx121_0, hx121_1, hx121_2, hx121_3, hx121_4, hx121_5⟩ := at_T51 HR0.out x7_1 p121 q121
        cases e121
        replace hx121_0 := (HB.out.cell (World.block_lt_of_cell? w _ hx121_0)).trans hx121_0
        replace hx121_1 := (HB.out.cell (World.block_lt_of_cell? w _ hx121_1)).trans hx121_1
        replace hx121_2 := (HB.out.cell (World.block_lt_of_cell? w _ hx121_2)).trans hx121_2
        replace hx121_3 := (HB.out.cell (World.block_lt_of_cell? w _ hx121_3)).trans hx121_3
        replace hx121_4 := (HB.out.cell (World.block_lt_of_cell? w _ hx121_4)).trans hx121_4
        replace hx121_5 := (HB.out.cell (World.block_lt_of_cell? w _ hx121_5)).trans hx121_5
        replace p121 := eq_true p121
        replace q121 := eq_true q121
        go_wp2_with (first | ((with_reducible refine gate_dst (N := 4) rfl ?_); (try (refine gate_guard (by rfl) ?_; dsimp only)); refine boxq_ (N := 4) (cs := #[.int .i64 0, .int .i64 0, .int .i64 0, .int .i64 0, .int .i64 0, .int .i64 0]) (t := 51) ?_; intro gb122 hg w17 hbox hb; have BK122 := am_ (hbox); have GW122 := gz_ hg; have GE122 := gz_ hg; replace HB := bs_ hb; clear hb hbox hg; have hcz18_0 := cq_ BK122.out 0 (.int .i64 0); have hcz18_1 := cq_ BK122.out 1 (.int .i64 0); have hcz18_2 := cq_ BK122.out 2 (.int .i64 0); have hcz18_3 := cq_ BK122.out 3 (.int .i64 0); have hcz18_4 := cq_ BK122.out 4 (.int .i64 0); have hcz18_5 := cq_ BK122.out 5 (.int .i64 0); have hfz18_0 := blk_frozen BK122.out 0; have hfz18_1 := blk_frozen BK122.out 1; have hfz18_2 := blk_frozen BK122.out 2; have hfz18_3 := blk_frozen BK122.out 3; have hfz18_4 := blk_frozen BK122.out 4; have hfz18_5 := blk_frozen BK122.out 5) | ((with_reducible refine gl_ 71 rfl ?_); refine goesM_ (some 13) Try.func71 #[.agg #[.int .i64 ((rd_T51 l0 x7_1).f0), .int .i64 ((rd_T51 l0 x7_1).f1), .int .i64 ((rd_T51 l0 x7_1).f2), .int .i64 ((rd_T51 l0 x7_1).f3), .int .i64 ((rd_T51 l0 x7_1).f4), .int .i64 ((rd_T51 l0 x7_1).f5)]] ?_; (with_reducible refine (spec_l2Step.calls k1 ((rd_T51 l0 x7_1).f0) ((rd_T51 l0 x7_1).f1) ((rd_T51 l0 x7_1).f2) ((rd_T51 l0 x7_1).f3) ((rd_T51 l0 x7_1).f4) ((rd_T51 l0 x7_1).f5) true _ A5.out).mono ?_); rintro e w19 ⟨rfl, hb⟩; refine ⟨_, rfl, ?_⟩; replace BK122 := am_ (blk_below (bu_ BK122.out) hb); replace HB := bs_ hb; (try clear hb); have hcz20_0 := cq_ BK122.out 0 (.int .i64 ((rd_T51 l0 x7_1).f0)); have hcz20_1 := cq_ BK122.out 1 (.int .i64 ((rd_T51 l0 x7_1).f1)); have hcz20_2 := cq_ BK122.out 2 (.int .i64 ((rd_T51 l0 x7_1).f2)); have hcz20_3 := cq_ BK122.out 3 (.int .i64 ((rd_T51 l0 x7_1).f3)); have hcz20_4 := cq_ BK122.out 4 (.int .i64 ((rd_T51 l0 x7_1).f4)); have hcz20_5 := cq_ BK122.out 5 (.int .i64 ((rd_T51 l0 x7_1).f5)); have hfz20_0 := blk_frozen BK122.out 0; have hfz20_1 := blk_frozen BK122.out 1; have hfz20_2 := blk_frozen BK122.out 2; have hfz20_3 := blk_frozen BK122.out 3; have hfz20_4 := blk_frozen BK122.out 4; have hfz20_5 := blk_frozen BK122.out 5))
        go_roundg k1
        case measure => have := HK1.out; omega
        case rel => exact ⟨(wrap64 (x7_1 + 1)), y14_, H', ⟨by have := HK1.out; omega⟩, ⟨bq_⟩⟩
      ·replace c6 := Bool.eq_false_iff.mpr c6
       subst c6
       have H1 : (some false) = some r := by rw [if_neg (show ¬ (false = true) by decide)] at H; exact H
       clear H
       have H := H1
       clear H1
       obtain rfl := Option.some.inj H
       have p121 : 0 ≤ (x7_1 : Int) := od_
       have q121 : x7_1 < (l0.length : Int) := od_
       obtain ⟨ad121, e121, hx121_0, hx121_1, hx121_2, hx121_3, hx121_4, hx121_5⟩ := at_T51 HR0.out x7_1 p121 q121
       cases e121
       replace hx121_0 := (HB.out.cell (World.block_lt_of_cell? w _ hx121_0)).trans hx121_0
       replace hx121_1 := (HB.out.cell (World.block_lt_of_cell? w _ hx121_1)).trans hx121_1
       replace hx121_2 := (HB.out.cell (World.block_lt_of_cell? w _ hx121_2)).trans hx121_2
       replace hx121_3 := (HB.out.cell (World.block_lt_of_cell? w _ hx121_3)).trans hx121_3
       replace hx121_4 := (HB.out.cell (World.block_lt_of_cell? w _ hx121_4)).trans hx121_4
       replace hx121_5 := (HB.out.cell (World.block_lt_of_cell? w _ hx121_5)).trans hx121_5
       replace p121 := eq_true p121
       replace q121 := eq_true q121
       go_wp2_with (first | ((with_reducible refine gate_dst (N := 4) rfl ?_); (try (refine gate_guard (by rfl) ?_; dsimp only)); refine boxq_ (N := 4) (cs := #[.int .i64 0, .int .i64 0, .int .i64 0, .int .i64 0, .int .i64 0, .int .i64 0]) (t := 51) ?_; intro gb122 hg w21 hbox hb; have BK122 := am_ (hbox); have GW122 := gz_ hg; have GE122 := gz_ hg; replace HB := bs_ hb; clear hb hbox hg; have hcz22_0 := cq_ BK122.out 0 (.int .i64 0); have hcz22_1 := cq_ BK122.out 1 (.int .i64 0); have hcz22_2 := cq_ BK122.out 2 (.int .i64 0); have hcz22_3 := cq_ BK122.out 3 (.int .i64 0); have hcz22_4 := cq_ BK122.out 4 (.int .i64 0); have hcz22_5 := cq_ BK122.out 5 (.int .i64 0); have hfz22_0 := blk_frozen BK122.out 0; have hfz22_1 := blk_frozen BK122.out 1; have hfz22_2 := blk_frozen BK122.out 2; have hfz22_3 := blk_frozen BK122.out 3; have hfz22_4 := blk_frozen BK122.out 4; have hfz22_5 := blk_frozen BK122.out 5) | ((with_reducible refine gl_ 71 rfl ?_); refine goesM_ (some 13) Try.func71 #[.agg #[.int .i64 ((rd_T51 l0 x7_1).f0), .int .i64 ((rd_T51 l0 x7_1).f1), .int .i64 ((rd_T51 l0 x7_1).f2), .int .i64 ((rd_T51 l0 x7_1).f3), .int .i64 ((rd_T51 l0 x7_1).f4), .int .i64 ((rd_T51 l0 x7_1).f5)]] ?_; (with_reducible refine (spec_l2Step.calls k1 ((rd_T51 l0 x7_1).f0) ((rd_T51 l0 x7_1).f1) ((rd_T51 l0 x7_1).f2) ((rd_T51 l0 x7_1).f3) ((rd_T51 l0 x7_1).f4) ((rd_T51 l0 x7_1).f5) false _ A5.out).mono ?_); rintro e w23 ⟨rfl, hb⟩; refine ⟨_, rfl, ?_⟩; replace BK122 := am_ (blk_below (bu_ BK122.out) hb); replace HB := bs_ hb; (try clear hb)))
       go_ret
       exact ⟨by first | rfl | (simp [errW_none, errW_some] <;> rfl) | (simp [*, errW_none, errW_some] <;> rfl), bq_⟩
     ·rw [if_neg c4] at H
      exact absurd H (by simp)
    ·rw [if_neg c3] at H
     exact absurd H (by simp)
   ·rw [if_neg c2] at H
    have c2b0 : decide (x7_1 < (l0.length : Int)) = false := decide_eq_false c2
    clear c2
    replace H := Option.bind_eq_some_iff.mp H
    obtain ⟨t124, A240, H⟩ := H
    replace H : (if t124 = true then (if 0 ≤ (wrap64 ((l0.length : Int) - 1)) then (if (wrap64 ((l0.length : Int) - 1)) < (l0.length : Int) then (some (((rd_T51 l0 (wrap64 ((l0.length : Int) - 1))).f0) == 11)) else (none)) else (none)) else (some false)) = some r := H
    have A24 := am_ A240
    clear A240
    by_cases c25 : t124 = true
    ·subst c25
     have H1 : (if 0 ≤ (wrap64 ((l0.length : Int) - 1)) then (if (wrap64 ((l0.length : Int) - 1)) < (l0.length : Int) then (some (((rd_T51 l0 (wrap64 ((l0.length : Int) - 1))).f0) == 11)) else (none)) else (none)) = some r := by rw [if_pos rfl] at H; exact H
     clear H
     have H := H1
     clear H1
     obtain ⟨ji26, hji26⟩ : ∃ j_ : Int, (wrap64 ((l0.length : Int) - 1)) = j_ := ⟨_, rfl⟩
     replace H : (if 0 ≤ (ji26) then (if (ji26) < (l0.length : Int) then (some (((rd_T51 l0 (ji26)).f0) == 11)) else (none)) else (none)) = some r := by first | (rw [hji26] at H; exact H) | (simp only [hji26] at H ⊢; exact H)
     (try rw [hji26] at A24)
     have hji26w : (IntKind.i64.wrap ((l0.length : Int) - 1)) = ji26 := (i64_w _).trans hji26
     by_cases c27 : 0 ≤ (ji26)
     ·rw [if_pos c27] at H
      have c27b0 : decide (0 ≤ (ji26)) = true := decide_eq_true c27
      clear c27
      by_cases c28 : (ji26) < (l0.length : Int)
      ·rw [if_pos c28] at H
       have c28b0 : decide ((ji26) < (l0.length : Int)) = true := decide_eq_true c28
       clear c28
       obtain rfl := Option.some.inj H
       go_wp2_with (first | ((with_reducible refine gl_ 72 rfl ?_); refine goesM_ (some 33) Try.func72 #[.int .i64 (l0.length : Int), .int .i64 1, .int .i64 20] ?_; (with_reducible refine (spec_l1In.calls (l0.length : Int) 1 20 true _ A24.out).mono ?_); rintro e w' ⟨rfl, ⟨nd, rfl⟩⟩; refine ⟨_, rfl, ?_⟩; have p125 : 0 ≤ ((ji26) : Int) := od_; have q125 : (ji26) < (l0.length : Int) := od_; obtain ⟨ad125, e125, hx125_0, hx125_1, hx125_2, hx125_3, hx125_4, hx125_5⟩ := at_T51 HR0.out (ji26) p125 q125; cases e125; replace hx125_0 := (HB.out.cell (World.block_lt_of_cell? w _ hx125_0)).trans hx125_0; replace hx125_1 := (HB.out.cell (World.block_lt_of_cell? w _ hx125_1)).trans hx125_1; replace hx125_2 := (HB.out.cell (World.block_lt_of_cell? w _ hx125_2)).trans hx125_2; replace hx125_3 := (HB.out.cell (World.block_lt_of_cell? w _ hx125_3)).trans hx125_3; replace hx125_4 := (HB.out.cell (World.block_lt_of_cell? w _ hx125_4)).trans hx125_4; replace hx125_5 := (HB.out.cell (World.block_lt_of_cell? w _ hx125_5)).trans hx125_5; replace p125 := eq_true p125; replace q125 := eq_true q125))
       go_ret
       exact ⟨by first | rfl | (simp [errW_none, errW_some] <;> rfl) | (simp only [← hji26]; first | rfl | (simp [errW_none, errW_some] <;> rfl)) | (simp [*, errW_none, errW_some] <;> rfl), bq_⟩
      ·rw [if_neg c28] at H
       exact absurd H (by simp)
     ·rw [if_neg c27] at H
      exact absurd H (by simp)
    ·replace c25 := Bool.eq_false_iff.mpr c25
     subst c25
     have H1 : (some false) = some r := by rw [if_neg (show ¬ (false = true) by decide)] at H; exact H
     clear H
     have H := H1
     clear H1
     obtain rfl := Option.some.inj H
     go_wp2_with (first | ((with_reducible refine gl_ 72 rfl ?_); refine goesM_ (some 33) Try.func72 #[.int .i64 (l0.length : Int), .int .i64 1, .int .i64 20] ?_; (with_reducible refine (spec_l1In.calls (l0.length : Int) 1 20 false _ A24.out).mono ?_); rintro e w' ⟨rfl, ⟨nd, rfl⟩⟩; refine ⟨_, rfl, ?_⟩))
     go_ret
     exact ⟨by first | rfl | (simp [errW_none, errW_some] <;> rfl) | (simp [*, errW_none, errW_some] <;> rfl), bq_⟩
def spec_l2Nexts.f (l0 : List (S51)) (a1 : Int) : Option (List Int) := if 0 ≤ a1 then (if a1 < (l0.length : Int) then (if ((rd_T51 l0 a1).f0) = 11 then (some ([] : List Int)) else (if ((rd_T51 l0 a1).f0) = 8 then (some (([wrap64 ((wrap64 (a1 + ((rd_T51 l0 a1).f5))) + 1)] : List Int))) else (if ((rd_T51 l0 a1).f0) = 9 then (some (([wrap64 (a1 + 1), wrap64 ((wrap64 (a1 + ((rd_T51 l0 a1).f5))) + 1)] : List Int))) else (if ((rd_T51 l0 a1).f0) = 10 then (some (([wrap64 (a1 + 1), wrap64 ((wrap64 (a1 + ((rd_T51 l0 a1).f5))) + 1)] : List Int))) else (some (([wrap64 (a1 + 1)] : List Int))))))) else (none)) else (none)
set_option maxHeartbeats 8000000 in
set_option maxRecDepth 100000 in
theorem spec_l2Nexts.calls (A0 : Option Addr) (c0 : Nat) (l0 : List (S51)) (a1 : Int) (r : List Int) (w : World) (hr0 : Kd.C k51 w A0 l0.length l0) (hc0 : l0.length ≤ c0) (h : spec_l2Nexts.f l0 a1 = some r) :
  Calls Try.prog 42 #[.slice A0 l0.length c0, .int .i64 a1] w fun e w' => ∃ v0_ : Value, e = .returned (v0_) ∧ Kd.R (Kd.int .i64) 3 w' w.heap.size (fun _ => True) v0_ r ∧ Below w.heap.size w w' := by
 have hu51 := Try.underlying51
 have HR0 := am_ hr0
 have HC0 := am_ hc0
 clear hr0 hc0
 have HB := am_ (Below.refl w.heap.size w)
 have H : (if 0 ≤ a1 then (if a1 < (l0.length : Int) then (if ((rd_T51 l0 a1).f0) = 11 then (some ([] : List Int)) else (if ((rd_T51 l0 a1).f0) = 8 then (some (([wrap64 ((wrap64 (a1 + ((rd_T51 l0 a1).f5))) + 1)] : List Int))) else (if ((rd_T51 l0 a1).f0) = 9 then (some (([wrap64 (a1 + 1), wrap64 ((wrap64 (a1 + ((rd_T51 l0 a1).f5))) + 1)] : List Int))) else (if ((rd_T51 l0 a1).f0) = 10 then (some (([wrap64 (a1 + 1), wrap64 ((wrap64 (a1 + ((rd_T51 l0 a1).f5))) + 1)] : List Int))) else (some (([wrap64 (a1 + 1)] : List Int))))))) else (none)) else (none)) = some r := h
 clear h
 by_cases c3 : 0 ≤ a1
 ·rw [if_pos c3] at H
  have c3b0 : decide (0 ≤ a1) = true := decide_eq_true c3
  clear c3
  by_cases c4 : a1 < (l0.length : Int)
  ·rw [if_pos c4] at H
   have c4b0 : decide (a1 < (l0.length : Int)) = true := decide_eq_true c4
   clear c4
   by_cases c5 : ((rd_T51 l0 a1).f0) = 11
   ·rw [if_pos c5] at H
    have c5b0 : (((rd_T51 l0 a1).f0) == 11) = true := beq_iff_eq.mpr c5
    have c5b1 : (((rd_T51 l0 a1).f0) != 11) = false := bne_eq_false_iff_eq.mpr c5
    clear c5
    obtain rfl := Option.some.inj H
    have p126 : 0 ≤ (a1 : Int) := od_
    have q126 : a1 < (l0.length : Int) := od_
    obtain ⟨ad126, e126, hx126_0, hx126_1, hx126_2, hx126_3, hx126_4, hx126_5⟩ := at_T51 HR0.out a1 p126 q126
    cases e126
    replace p126 := eq_true p126
    replace q126 := eq_true q126
    go_enter Try.func42, Try.ntmps42
    go_wp2_with (first | ((with_reducible refine gate_dst (N := 5) rfl ?_); refine boxq_ (N := 5) (cs := #[.int .i64 0, .int .i64 0, .int .i64 0, .int .i64 0, .int .i64 0, .int .i64 0]) (t := 51) ?_; intro gb127 hg w6 hbox hb; have BK127 := am_ (hbox); have GW127 := gz_ hg; have GE127 := gz_ hg; replace HB := bs_ hb; clear hb hbox hg; have hcz7_0 := cq_ BK127.out 0 (.int .i64 0); have hcz7_1 := cq_ BK127.out 1 (.int .i64 0); have hcz7_2 := cq_ BK127.out 2 (.int .i64 0); have hcz7_3 := cq_ BK127.out 3 (.int .i64 0); have hcz7_4 := cq_ BK127.out 4 (.int .i64 0); have hcz7_5 := cq_ BK127.out 5 (.int .i64 0); have hfz7_0 := blk_frozen BK127.out 0; have hfz7_1 := blk_frozen BK127.out 1; have hfz7_2 := blk_frozen BK127.out 2; have hfz7_3 := blk_frozen BK127.out 3; have hfz7_4 := blk_frozen BK127.out 4; have hfz7_5 := blk_frozen BK127.out 5))
    go_ret
    exact ⟨_, by first | rfl | (simp [errW_none, errW_some] <;> rfl) | (simp [*, errW_none, errW_some] <;> rfl), by first | exact Kd.R_nil _ _ _ _ _ | exact Kd.N_nil _ _ _ _ _ | exact Kd.V_nil _ _ _ _ _ | exact Kd.Q_nil _ _ _ _ _ | exact Kd.S_nil _ _ _ _ _, bq_⟩
   ·rw [if_neg c5] at H
    have c5b0 : (((rd_T51 l0 a1).f0) == 11) = false := beq_eq_false_iff_ne.mpr c5
    have c5b1 : (((rd_T51 l0 a1).f0) != 11) = true := bne_iff_ne.mpr c5
    by_cases c8 : ((rd_T51 l0 a1).f0) = 8
    ·rw [if_pos c8] at H
     have c8b0 : (((rd_T51 l0 a1).f0) == 8) = true := beq_iff_eq.mpr c8
     have c8b1 : (((rd_T51 l0 a1).f0) != 8) = false := bne_eq_false_iff_eq.mpr c8
     clear c8
     obtain ⟨y128, hy128⟩ : ∃ y_ : List Int, y_ = (([wrap64 ((wrap64 (a1 + ((rd_T51 l0 a1).f5))) + 1)] : List Int)) := ⟨_, rfl⟩
     replace H : (some y128) = some r := by first | (rw [hy128]; with_reducible exact H) | (have H2_ := (Option.bind_some _ _).symm.trans H; rw [hy128]; with_reducible exact H2_) | (have H2_ := (Option.bind_some _ _).symm.trans H; with_reducible exact H2_) | with_reducible exact H | (rw [hy128]; exact H) | exact H
     have Ny128 := am_ hy128
     clear hy128
     obtain rfl := Option.some.inj H
     have p126 : 0 ≤ (a1 : Int) := od_
     have q126 : a1 < (l0.length : Int) := od_
     obtain ⟨ad126, e126, hx126_0, hx126_1, hx126_2, hx126_3, hx126_4, hx126_5⟩ := at_T51 HR0.out a1 p126 q126
     cases e126
     replace p126 := eq_true p126
     replace q126 := eq_true q126
     go_enter Try.func42, Try.ntmps42
     go_wp2_with (first | ((with_reducible refine gate_dst (N := 5) rfl ?_); refine boxq_ (N := 5) (cs := #[.int .i64 0, .int .i64 0, .int .i64 0, .int .i64 0, .int .i64 0, .int .i64 0]) (t := 51) ?_; intro gb127 hg w9 hbox hb; have BK127 := am_ (hbox); have GW127 := gz_ hg; have GE127 := gz_ hg; replace HB := bs_ hb; clear hb hbox hg; have hcz10_0 := cq_ BK127.out 0 (.int .i64 0); have hcz10_1 := cq_ BK127.out 1 (.int .i64 0); have hcz10_2 := cq_ BK127.out 2 (.int .i64 0); have hcz10_3 := cq_ BK127.out 3 (.int .i64 0); have hcz10_4 := cq_ BK127.out 4 (.int .i64 0); have hcz10_5 := cq_ BK127.out 5 (.int .i64 0); have hfz10_0 := blk_frozen BK127.out 0; have hfz10_1 := blk_frozen BK127.out 1; have hfz10_2 := blk_frozen BK127.out 2; have hfz10_3 := blk_frozen BK127.out 3; have hfz10_4 := blk_frozen BK127.out 4; have hfz10_5 := blk_frozen BK127.out 5) | ((with_reducible refine gate_dst (N := 21) rfl ?_); refine Kd.R_lit (Kd.int .i64) _ 3 ?hg (N := 21) ?hd (xs := ([wrap64 ((wrap64 (a1 + ((rd_T51 l0 a1).f5))) + 1)] : List Int)) (inner := [.int .i64 (wrap64 ((wrap64 (a1 + ((rd_T51 l0 a1).f5))) + 1))]) (ok := fun _ => True) (okp := fun _ => True) ?hr ?hp (fun _ hk => hk) trivial (Below.refl _ _) (Nat.le_refl _) (by simp) ?_; (case hd => rfl); (case hg => rfl); (case hr => first | (go_simp; done) | (go_simp; rfl)); (case hp => exact (Reps.one (show Kd.M (Kd.int .i64) _ _ _ (wrap64 ((wrap64 (a1 + ((rd_T51 l0 a1).f5))) + 1)) [.int .i64 (wrap64 ((wrap64 (a1 + ((rd_T51 l0 a1).f5))) + 1))] from rfl) (Reps.none _ _))); intro v129 w11 ho12 hb hg_ hnew_; clear hg_ hnew_; (first | rw [← Ny128.out] at ho12 | (simp only [Int.reduceToNat] at ho12; rw [← Ny128.out] at ho12)); have HO130 := am_ (Kd.R_lower ho12 (below_size (bq_))); replace BK127 := am_ (blk_below (bu_ BK127.out) hb); replace HB := bs_ hb; clear hb ho12))
     go_ret
     exact ⟨_, by first | rfl | (simp [errW_none, errW_some] <;> rfl) | (simp [*, errW_none, errW_some] <;> rfl), rq_ HO130.out, bq_⟩
    ·rw [if_neg c8] at H
     have c8b0 : (((rd_T51 l0 a1).f0) == 8) = false := beq_eq_false_iff_ne.mpr c8
     have c8b1 : (((rd_T51 l0 a1).f0) != 8) = true := bne_iff_ne.mpr c8
     by_cases c13 : ((rd_T51 l0 a1).f0) = 9
     ·rw [if_pos c13] at H
      have c13b0 : (((rd_T51 l0 a1).f0) == 9) = true := beq_iff_eq.mpr c13
      have c13b1 : (((rd_T51 l0 a1).f0) != 9) = false := bne_eq_false_iff_eq.mpr c13
      clear c13
      obtain ⟨y131, hy131⟩ : ∃ y_ : List Int, y_ = (([wrap64 (a1 + 1), wrap64 ((wrap64 (a1 + ((rd_T51 l0 a1).f5))) + 1)] : List Int)) := ⟨_, rfl⟩
      replace H : (some y131) = some r := by first | (rw [hy131]; with_reducible exact H) | (have H2_ := (Option.bind_some _ _).symm.trans H; rw [hy131]; with_reducible exact H2_) | (have H2_ := (Option.bind_some _ _).symm.trans H; with_reducible exact H2_) | with_reducible exact H | (rw [hy131]; exact H) | exact H
      have Ny131 := am_ hy131
      clear hy131
      obtain rfl := Option.some.inj H
      have p126 : 0 ≤ (a1 : Int) := od_
      have q126 : a1 < (l0.length : Int) := od_
      obtain ⟨ad126, e126, hx126_0, hx126_1, hx126_2, hx126_3, hx126_4, hx126_5⟩ := at_T51 HR0.out a1 p126 q126
      cases e126
      replace p126 := eq_true p126
      replace q126 := eq_true q126
      go_enter Try.func42, Try.ntmps42
      go_wp2_with (first | ((with_reducible refine gate_dst (N := 5) rfl ?_); refine boxq_ (N := 5) (cs := #[.int .i64 0, .int .i64 0, .int .i64 0, .int .i64 0, .int .i64 0, .int .i64 0]) (t := 51) ?_; intro gb127 hg w14 hbox hb; have BK127 := am_ (hbox); have GW127 := gz_ hg; have GE127 := gz_ hg; replace HB := bs_ hb; clear hb hbox hg; have hcz15_0 := cq_ BK127.out 0 (.int .i64 0); have hcz15_1 := cq_ BK127.out 1 (.int .i64 0); have hcz15_2 := cq_ BK127.out 2 (.int .i64 0); have hcz15_3 := cq_ BK127.out 3 (.int .i64 0); have hcz15_4 := cq_ BK127.out 4 (.int .i64 0); have hcz15_5 := cq_ BK127.out 5 (.int .i64 0); have hfz15_0 := blk_frozen BK127.out 0; have hfz15_1 := blk_frozen BK127.out 1; have hfz15_2 := blk_frozen BK127.out 2; have hfz15_3 := blk_frozen BK127.out 3; have hfz15_4 := blk_frozen BK127.out 4; have hfz15_5 := blk_frozen BK127.out 5) | ((with_reducible refine gate_dst (N := 32) rfl ?_); refine Kd.R_lit (Kd.int .i64) _ 3 ?hg (N := 32) ?hd (xs := ([wrap64 (a1 + 1), wrap64 ((wrap64 (a1 + ((rd_T51 l0 a1).f5))) + 1)] : List Int)) (inner := [.int .i64 (wrap64 (a1 + 1)), .int .i64 (wrap64 ((wrap64 (a1 + ((rd_T51 l0 a1).f5))) + 1))]) (ok := fun _ => True) (okp := fun _ => True) ?hr ?hp (fun _ hk => hk) trivial (Below.refl _ _) (Nat.le_refl _) (by simp) ?_; (case hd => rfl); (case hg => rfl); (case hr => first | (go_simp; done) | (go_simp; rfl)); (case hp => exact (Reps.one (show Kd.M (Kd.int .i64) _ _ _ (wrap64 (a1 + 1)) [.int .i64 (wrap64 (a1 + 1))] from rfl) (Reps.one (show Kd.M (Kd.int .i64) _ _ _ (wrap64 ((wrap64 (a1 + ((rd_T51 l0 a1).f5))) + 1)) [.int .i64 (wrap64 ((wrap64 (a1 + ((rd_T51 l0 a1).f5))) + 1))] from rfl) (Reps.none _ _)))); intro v132 w16 ho17 hb hg_ hnew_; clear hg_ hnew_; (first | rw [← Ny131.out] at ho17 | (simp only [Int.reduceToNat] at ho17; rw [← Ny131.out] at ho17)); have HO133 := am_ (Kd.R_lower ho17 (below_size (bq_))); replace BK127 := am_ (blk_below (bu_ BK127.out) hb); replace HB := bs_ hb; clear hb ho17))
      go_ret
      exact ⟨_, by first | rfl | (simp [errW_none, errW_some] <;> rfl) | (simp [*, errW_none, errW_some] <;> rfl), rq_ HO133.out, bq_⟩
     ·rw [if_neg c13] at H
      have c13b0 : (((rd_T51 l0 a1).f0) == 9) = false := beq_eq_false_iff_ne.mpr c13
      have c13b1 : (((rd_T51 l0 a1).f0) != 9) = true := bne_iff_ne.mpr c13
      by_cases c18 : ((rd_T51 l0 a1).f0) = 10
      ·rw [if_pos c18] at H
       have c18b0 : (((rd_T51 l0 a1).f0) == 10) = true := beq_iff_eq.mpr c18
       have c18b1 : (((rd_T51 l0 a1).f0) != 10) = false := bne_eq_false_iff_eq.mpr c18
       clear c18
       obtain ⟨y134, hy134⟩ : ∃ y_ : List Int, y_ = (([wrap64 (a1 + 1), wrap64 ((wrap64 (a1 + ((rd_T51 l0 a1).f5))) + 1)] : List Int)) := ⟨_, rfl⟩
       replace H : (some y134) = some r := by first | (rw [hy134]; with_reducible exact H) | (have H2_ := (Option.bind_some _ _).symm.trans H; rw [hy134]; with_reducible exact H2_) | (have H2_ := (Option.bind_some _ _).symm.trans H; with_reducible exact H2_) | with_reducible exact H | (rw [hy134]; exact H) | exact H
       have Ny134 := am_ hy134
       clear hy134
       obtain rfl := Option.some.inj H
       have p126 : 0 ≤ (a1 : Int) := od_
       have q126 : a1 < (l0.length : Int) := od_
       obtain ⟨ad126, e126, hx126_0, hx126_1, hx126_2, hx126_3, hx126_4, hx126_5⟩ := at_T51 HR0.out a1 p126 q126
       cases e126
       replace p126 := eq_true p126
       replace q126 := eq_true q126
       go_enter Try.func42, Try.ntmps42
       go_wp2_with (first | ((with_reducible refine gate_dst (N := 5) rfl ?_); refine boxq_ (N := 5) (cs := #[.int .i64 0, .int .i64 0, .int .i64 0, .int .i64 0, .int .i64 0, .int .i64 0]) (t := 51) ?_; intro gb127 hg w19 hbox hb; have BK127 := am_ (hbox); have GW127 := gz_ hg; have GE127 := gz_ hg; replace HB := bs_ hb; clear hb hbox hg; have hcz20_0 := cq_ BK127.out 0 (.int .i64 0); have hcz20_1 := cq_ BK127.out 1 (.int .i64 0); have hcz20_2 := cq_ BK127.out 2 (.int .i64 0); have hcz20_3 := cq_ BK127.out 3 (.int .i64 0); have hcz20_4 := cq_ BK127.out 4 (.int .i64 0); have hcz20_5 := cq_ BK127.out 5 (.int .i64 0); have hfz20_0 := blk_frozen BK127.out 0; have hfz20_1 := blk_frozen BK127.out 1; have hfz20_2 := blk_frozen BK127.out 2; have hfz20_3 := blk_frozen BK127.out 3; have hfz20_4 := blk_frozen BK127.out 4; have hfz20_5 := blk_frozen BK127.out 5) | ((with_reducible refine gate_dst (N := 32) rfl ?_); refine Kd.R_lit (Kd.int .i64) _ 3 ?hg (N := 32) ?hd (xs := ([wrap64 (a1 + 1), wrap64 ((wrap64 (a1 + ((rd_T51 l0 a1).f5))) + 1)] : List Int)) (inner := [.int .i64 (wrap64 (a1 + 1)), .int .i64 (wrap64 ((wrap64 (a1 + ((rd_T51 l0 a1).f5))) + 1))]) (ok := fun _ => True) (okp := fun _ => True) ?hr ?hp (fun _ hk => hk) trivial (Below.refl _ _) (Nat.le_refl _) (by simp) ?_; (case hd => rfl); (case hg => rfl); (case hr => first | (go_simp; done) | (go_simp; rfl)); (case hp => exact (Reps.one (show Kd.M (Kd.int .i64) _ _ _ (wrap64 (a1 + 1)) [.int .i64 (wrap64 (a1 + 1))] from rfl) (Reps.one (show Kd.M (Kd.int .i64) _ _ _ (wrap64 ((wrap64 (a1 + ((rd_T51 l0 a1).f5))) + 1)) [.int .i64 (wrap64 ((wrap64 (a1 + ((rd_T51 l0 a1).f5))) + 1))] from rfl) (Reps.none _ _)))); intro v135 w21 ho22 hb hg_ hnew_; clear hg_ hnew_; (first | rw [← Ny134.out] at ho22 | (simp only [Int.reduceToNat] at ho22; rw [← Ny134.out] at ho22)); have HO136 := am_ (Kd.R_lower ho22 (below_size (bq_))); replace BK127 := am_ (blk_below (bu_ BK127.out) hb); replace HB := bs_ hb; clear hb ho22))
       go_ret
       exact ⟨_, by first | rfl | (simp [errW_none, errW_some] <;> rfl) | (simp [*, errW_none, errW_some] <;> rfl), rq_ HO136.out, bq_⟩
      ·rw [if_neg c18] at H
       have c18b0 : (((rd_T51 l0 a1).f0) == 10) = false := beq_eq_false_iff_ne.mpr c18
       have c18b1 : (((rd_T51 l0 a1).f0) != 10) = true := bne_iff_ne.mpr c18
       obtain ⟨y137, hy137⟩ : ∃ y_ : List Int, y_ = (([wrap64 (a1 + 1)] : List Int)) := ⟨_, rfl⟩
       replace H : (some y137) = some r := by first | (rw [hy137]; with_reducible exact H) | (have H2_ := (Option.bind_some _ _).symm.trans H; rw [hy137]; with_reducible exact H2_) | (have H2_ := (Option.bind_some _ _).symm.trans H; with_reducible exact H2_) | with_reducible exact H | (rw [hy137]; exact H) | exact H
       have Ny137 := am_ hy137
       clear hy137
       obtain rfl := Option.some.inj H
       have p126 : 0 ≤ (a1 : Int) := od_
       have q126 : a1 < (l0.length : Int) := od_
       obtain ⟨ad126, e126, hx126_0, hx126_1, hx126_2, hx126_3, hx126_4, hx126_5⟩ := at_T51 HR0.out a1 p126 q126
       cases e126
       replace p126 := eq_true p126
       replace q126 := eq_true q126
       go_enter Try.func42, Try.ntmps42
       go_wp2_with (first | ((with_reducible refine gate_dst (N := 5) rfl ?_); refine boxq_ (N := 5) (cs := #[.int .i64 0, .int .i64 0, .int .i64 0, .int .i64 0, .int .i64 0, .int .i64 0]) (t := 51) ?_; intro gb127 hg w23 hbox hb; have BK127 := am_ (hbox); have GW127 := gz_ hg; have GE127 := gz_ hg; replace HB := bs_ hb; clear hb hbox hg; have hcz24_0 := cq_ BK127.out 0 (.int .i64 0); have hcz24_1 := cq_ BK127.out 1 (.int .i64 0); have hcz24_2 := cq_ BK127.out 2 (.int .i64 0); have hcz24_3 := cq_ BK127.out 3 (.int .i64 0); have hcz24_4 := cq_ BK127.out 4 (.int .i64 0); have hcz24_5 := cq_ BK127.out 5 (.int .i64 0); have hfz24_0 := blk_frozen BK127.out 0; have hfz24_1 := blk_frozen BK127.out 1; have hfz24_2 := blk_frozen BK127.out 2; have hfz24_3 := blk_frozen BK127.out 3; have hfz24_4 := blk_frozen BK127.out 4; have hfz24_5 := blk_frozen BK127.out 5) | ((with_reducible refine gate_dst (N := 35) rfl ?_); refine Kd.R_lit (Kd.int .i64) _ 3 ?hg (N := 35) ?hd (xs := ([wrap64 (a1 + 1)] : List Int)) (inner := [.int .i64 (wrap64 (a1 + 1))]) (ok := fun _ => True) (okp := fun _ => True) ?hr ?hp (fun _ hk => hk) trivial (Below.refl _ _) (Nat.le_refl _) (by simp) ?_; (case hd => rfl); (case hg => rfl); (case hr => first | (go_simp; done) | (go_simp; rfl)); (case hp => exact (Reps.one (show Kd.M (Kd.int .i64) _ _ _ (wrap64 (a1 + 1)) [.int .i64 (wrap64 (a1 + 1))] from rfl) (Reps.none _ _))); intro v138 w25 ho26 hb hg_ hnew_; clear hg_ hnew_; (first | rw [← Ny137.out] at ho26 | (simp only [Int.reduceToNat] at ho26; rw [← Ny137.out] at ho26)); have HO139 := am_ (Kd.R_lower ho26 (below_size (bq_))); replace BK127 := am_ (blk_below (bu_ BK127.out) hb); replace HB := bs_ hb; clear hb ho26))
       go_ret
       exact ⟨_, by first | rfl | (simp [errW_none, errW_some] <;> rfl) | (simp [*, errW_none, errW_some] <;> rfl), rq_ HO139.out, bq_⟩
  ·rw [if_neg c4] at H
   exact absurd H (by simp)
 ·rw [if_neg c3] at H
  exact absurd H (by simp)
def spec_l1Put.l0 : Nat → List Int → Int → Int → Option (List Int)
 | 0, _, _, _ => none
 | k + 1, x0, x1, x5 => if x5 < (x0.length : Int) then (if 0 ≤ x5 then (if (rd x0 x5) < x1 then (spec_l1Put.l0 k x0 x1 (wrap64 (x5 + 1))) else (if (rd x0 x5) = x1 then (some x0) else ((some (([] : List Int) : List Int)).bind fun y142 => (if x5 ≤ (x0.length : Int) then ((some (x0.take (x5 : Int).toNat : List Int)).bind fun y145 => (if y142.length + y145.length < 17592186044416 then ((some (y142 ++ y145 : List Int)).bind fun y149 => (if y149.length < 17592186044416 then ((some (y149 ++ [x1] : List Int)).bind fun y152 => ((some (x0.drop (x5 : Int).toNat : List Int)).bind fun y155 => (if y152.length + y155.length < 17592186044416 then (some (y152 ++ y155)) else (none)))) else (none))) else (none))) else (none))))) else (none)) else ((some (([] : List Int) : List Int)).bind fun y162 => (if 0 ≤ x5 then (if x5 ≤ (x0.length : Int) then ((some (x0.take (x5 : Int).toNat : List Int)).bind fun y165 => (if y162.length + y165.length < 17592186044416 then ((some (y162 ++ y165 : List Int)).bind fun y169 => (if y169.length < 17592186044416 then ((some (y169 ++ [x1] : List Int)).bind fun y172 => ((some (x0.drop (x5 : Int).toNat : List Int)).bind fun y175 => (if y172.length + y175.length < 17592186044416 then (some (y172 ++ y175)) else (none)))) else (none))) else (none))) else (none)) else (none)))
def spec_l1Put.f (k : Nat) (l0 : List Int) (a1 : Int) : Option (List Int) := spec_l1Put.l0 k l0 a1 0
set_option maxHeartbeats 8000000 in
set_option maxRecDepth 100000 in
theorem spec_l1Put.calls (k : Nat) (P0_ : Nat → Prop) (u9000_ : Value) (l0 : List Int) (a1 : Int) (r : List Int) (w0 w : World) (hB : Below w0.heap.size w0 w) (ho0 : Kd.R (Kd.int .i64) 3 w w0.heap.size P0_ u9000_ l0) (h : spec_l1Put.f k l0 a1 = some r) :
  Calls Try.prog 54 #[u9000_, .int .i64 a1] w fun e w' => ∃ v0_ : Value, e = .returned (v0_) ∧ Kd.R (Kd.int .i64) 3 w' w0.heap.size (fun k_ => (P0_ k_ ∨ w.heap.size ≤ k_)) v0_ r ∧ Below w0.heap.size w0 w' ∧ Kept w w' (fun k_ => P0_ k_) := by
 have HO0 := am_ (show Kd.R (Kd.int .i64) 3 w w0.heap.size (fun k_ => (P0_ k_ ∨ w.heap.size ≤ k_)) u9000_ l0 from Kd.R_mono ho0 (fun k_ hk => (.inl hk)))
 have HK := am_ (Kept.refl w (fun k_ => P0_ k_))
 have HW0 := am_ hB.size
 have HB := am_ hB
 clear hB
 have H : (spec_l1Put.l0 k l0 a1 0) = some r := h
 clear h
 have H' := am_ H
 clear H
 go_enter Try.func54, Try.ntmps54
 go_wp2
 go_loopg [5] k (fun kq v5 w' => ∃ (x5_1 : Int), v5 = .int .i64 x5_1 ∧ Aside0 (spec_l1Put.l0 kq l0 a1 x5_1 = some r) ∧ Aside0 (kq ≤ k) ∧ Aside0 (Kd.R (Kd.int .i64) 3 w' w0.heap.size (fun k_ => (P0_ k_ ∨ w.heap.size ≤ k_)) u9000_ l0) ∧ Aside0 (Kept w w' (fun k_ => P0_ k_)) ∧ Aside0 (Below w0.heap.size w0 w'))
 case atStart => exact ⟨(0), y14_, H', ⟨Nat.le_refl _⟩, ⟨rq_ HO0.out⟩, ⟨by repeat (first | (with_reducible first | exact HK.out | apply Kept.alloc | apply Kept.drewN | apply Kept.drew) | exact HK.out)⟩, ⟨bq_⟩⟩
 case round =>
  clear H'
  try clear p2
  obtain ⟨x5_1, rfl, HA, HK1, HO_0, HK, HB⟩ := hrel
  cases gk with
  | zero => exact absurd HA.out (by simp [spec_l1Put.l0])
  | succ k1 =>
   have H := HA.out
   clear HA
   simp only [spec_l1Put.l0] at H
   by_cases c3 : x5_1 < (l0.length : Int)
   ·rw [if_pos c3] at H
    have c3b0 : decide (x5_1 < (l0.length : Int)) = true := decide_eq_true c3
    clear c3
    by_cases c4 : 0 ≤ x5_1
    ·rw [if_pos c4] at H
     have c4b0 : decide (0 ≤ x5_1) = true := decide_eq_true c4
     clear c4
     by_cases c5 : (rd l0 x5_1) < a1
     ·rw [if_pos c5] at H
      have c5b0 : decide ((rd l0 x5_1) < a1) = true := decide_eq_true c5
      clear c5
      have H' := am_ H
      clear H
      obtain ⟨Ao6, co6, eo6⟩ := Kd.R_slice HO_0.out
      subst eo6
      have p140 : 0 ≤ (x5_1 : Int) := od_
      have q140 : x5_1 < (l0.length : Int) := od_
      obtain ⟨ad140, e140, hx140_0⟩ := Kd.at_int (Kd.R_reads' HO_0.out).2.2 x5_1 p140 q140
      cases e140
      replace p140 := eq_true p140
      replace q140 := eq_true q140
      go_wp2
      go_roundg k1
      case measure => have := HK1.out; omega
      case rel => exact ⟨(wrap64 (x5_1 + 1)), y14_, H', ⟨by have := HK1.out; omega⟩, ⟨rq_ HO_0.out⟩, ⟨by repeat (first | (with_reducible first | exact HK.out | apply Kept.alloc | apply Kept.drewN | apply Kept.drew) | exact HK.out)⟩, ⟨bq_⟩⟩
     ·rw [if_neg c5] at H
      have c5b0 : decide ((rd l0 x5_1) < a1) = false := decide_eq_false c5
      clear c5
      by_cases c7 : (rd l0 x5_1) = a1
      ·rw [if_pos c7] at H
       have c7b0 : ((rd l0 x5_1) == a1) = true := beq_iff_eq.mpr c7
       have c7b1 : ((rd l0 x5_1) != a1) = false := bne_eq_false_iff_eq.mpr c7
       clear c7
       obtain rfl := Option.some.inj H
       obtain ⟨Ao8, co8, eo8⟩ := Kd.R_slice HO_0.out
       subst eo8
       have p140 : 0 ≤ (x5_1 : Int) := od_
       have q140 : x5_1 < (l0.length : Int) := od_
       obtain ⟨ad140, e140, hx140_0⟩ := Kd.at_int (Kd.R_reads' HO_0.out).2.2 x5_1 p140 q140
       cases e140
       replace p140 := eq_true p140
       replace q140 := eq_true q140
       have p141 : 0 ≤ (x5_1 : Int) := od_
       have q141 : x5_1 < (l0.length : Int) := od_
       obtain ⟨ad141, e141, hx141_0⟩ := Kd.at_int (Kd.R_reads' HO_0.out).2.2 x5_1 p141 q141
       obtain rfl : ad140 = ad141 := (by injection e141)
       replace p141 := eq_true p141
       replace q141 := eq_true q141
       go_wp2
       go_ret
       exact ⟨_, by first | rfl | (simp [errW_none, errW_some] <;> rfl) | (simp [*, errW_none, errW_some] <;> rfl), rq_ HO_0.out, bq_, by repeat (first | (with_reducible first | exact HK.out | apply Kept.alloc | apply Kept.drewN | apply Kept.drew) | exact HK.out)⟩
      ·rw [if_neg c7] at H
       have c7b0 : ((rd l0 x5_1) == a1) = false := beq_eq_false_iff_ne.mpr c7
       have c7b1 : ((rd l0 x5_1) != a1) = true := bne_iff_ne.mpr c7
       obtain ⟨y142, hy142⟩ : ∃ y_ : List Int, y_ = (([] : List Int)) := ⟨_, rfl⟩
       replace H : (if x5_1 ≤ (l0.length : Int) then ((some (l0.take (x5_1 : Int).toNat : List Int)).bind fun y145 => (if y142.length + y145.length < 17592186044416 then ((some (y142 ++ y145 : List Int)).bind fun y149 => (if y149.length < 17592186044416 then ((some (y149 ++ [a1] : List Int)).bind fun y152 => ((some (l0.drop (x5_1 : Int).toNat : List Int)).bind fun y155 => (if y152.length + y155.length < 17592186044416 then (some (y152 ++ y155)) else (none)))) else (none))) else (none))) else (none)) = some r := by first | (rw [hy142]; with_reducible exact H) | (have H2_ := (Option.bind_some _ _).symm.trans H; rw [hy142]; with_reducible exact H2_) | (have H2_ := (Option.bind_some _ _).symm.trans H; with_reducible exact H2_) | with_reducible exact H | (rw [hy142]; exact H) | exact H
       have Ny142 := am_ hy142
       clear hy142
       have c9b0 := eq_true (od_ : 0 ≤ x5_1)
       by_cases c10 : x5_1 ≤ (l0.length : Int)
       ·rw [if_pos c10] at H
        have c10b0 := eq_true c10
        have c10b1 : decide (x5_1 ≤ (l0.length : Int)) = true := decide_eq_true c10
        clear c10
        obtain ⟨y145, hy145⟩ : ∃ y_ : List Int, y_ = (l0.take (x5_1 : Int).toNat) := ⟨_, rfl⟩
        replace H : (if y142.length + y145.length < 17592186044416 then ((some (y142 ++ y145 : List Int)).bind fun y149 => (if y149.length < 17592186044416 then ((some (y149 ++ [a1] : List Int)).bind fun y152 => ((some (l0.drop (x5_1 : Int).toNat : List Int)).bind fun y155 => (if y152.length + y155.length < 17592186044416 then (some (y152 ++ y155)) else (none)))) else (none))) else (none)) = some r := by first | (rw [hy145]; with_reducible exact H) | (have H2_ := (Option.bind_some _ _).symm.trans H; rw [hy145]; with_reducible exact H2_) | (have H2_ := (Option.bind_some _ _).symm.trans H; with_reducible exact H2_) | with_reducible exact H | (rw [hy145]; exact H) | exact H
        have Ny145 := am_ hy145
        clear hy145
        by_cases c11 : y142.length + y145.length < 17592186044416
        ·rw [if_pos c11] at H
         have LMc11 := am_ c11
         clear c11
         obtain ⟨y149, hy149⟩ : ∃ y_ : List Int, y_ = (y142 ++ y145) := ⟨_, rfl⟩
         replace H : (if y149.length < 17592186044416 then ((some (y149 ++ [a1] : List Int)).bind fun y152 => ((some (l0.drop (x5_1 : Int).toNat : List Int)).bind fun y155 => (if y152.length + y155.length < 17592186044416 then (some (y152 ++ y155)) else (none)))) else (none)) = some r := by first | (rw [hy149]; with_reducible exact H) | (have H2_ := (Option.bind_some _ _).symm.trans H; rw [hy149]; with_reducible exact H2_) | (have H2_ := (Option.bind_some _ _).symm.trans H; with_reducible exact H2_) | with_reducible exact H | (rw [hy149]; exact H) | exact H
         have Ny149 := am_ hy149
         clear hy149
         by_cases c12 : y149.length < 17592186044416
         ·rw [if_pos c12] at H
          have LMc12 := am_ c12
          clear c12
          obtain ⟨y152, hy152⟩ : ∃ y_ : List Int, y_ = (y149 ++ [a1]) := ⟨_, rfl⟩
          replace H : ((some (l0.drop (x5_1 : Int).toNat : List Int)).bind fun y155 => (if y152.length + y155.length < 17592186044416 then (some (y152 ++ y155)) else (none))) = some r := by first | (rw [hy152]; with_reducible exact H) | (have H2_ := (Option.bind_some _ _).symm.trans H; rw [hy152]; with_reducible exact H2_) | (have H2_ := (Option.bind_some _ _).symm.trans H; with_reducible exact H2_) | with_reducible exact H | (rw [hy152]; exact H) | exact H
          have Ny152 := am_ hy152
          clear hy152
          have c13b0 := eq_true (od_ : 0 ≤ x5_1)
          have c14b0 := eq_true (od_ : x5_1 ≤ (l0.length : Int))
          obtain ⟨y155, hy155⟩ : ∃ y_ : List Int, y_ = (l0.drop (x5_1 : Int).toNat) := ⟨_, rfl⟩
          replace H : (if y152.length + y155.length < 17592186044416 then (some (y152 ++ y155)) else (none)) = some r := by first | (rw [hy155]; with_reducible exact H) | (have H2_ := (Option.bind_some _ _).symm.trans H; rw [hy155]; with_reducible exact H2_) | (have H2_ := (Option.bind_some _ _).symm.trans H; with_reducible exact H2_) | with_reducible exact H | (rw [hy155]; exact H) | exact H
          have Ny155 := am_ hy155
          clear hy155
          by_cases c15 : y152.length + y155.length < 17592186044416
          ·rw [if_pos c15] at H
           have LMc15 := am_ c15
           clear c15
           obtain ⟨y159, hy159⟩ : ∃ y_ : List Int, y_ = (y152 ++ y155) := ⟨_, rfl⟩
           replace H : (some y159) = some r := by first | (rw [hy159]; with_reducible exact H) | (have H2_ := (Option.bind_some _ _).symm.trans H; rw [hy159]; with_reducible exact H2_) | (have H2_ := (Option.bind_some _ _).symm.trans H; with_reducible exact H2_) | with_reducible exact H | (rw [hy159]; exact H) | exact H
           have Ny159 := am_ hy159
           clear hy159
           obtain rfl := Option.some.inj H
           obtain ⟨Ao16, co16, eo16⟩ := Kd.R_slice HO_0.out
           subst eo16
           have p140 : 0 ≤ (x5_1 : Int) := od_
           have q140 : x5_1 < (l0.length : Int) := od_
           obtain ⟨ad140, e140, hx140_0⟩ := Kd.at_int (Kd.R_reads' HO_0.out).2.2 x5_1 p140 q140
           cases e140
           replace p140 := eq_true p140
           replace q140 := eq_true q140
           have p141 : 0 ≤ (x5_1 : Int) := od_
           have q141 : x5_1 < (l0.length : Int) := od_
           obtain ⟨ad141, e141, hx141_0⟩ := Kd.at_int (Kd.R_reads' HO_0.out).2.2 x5_1 p141 q141
           obtain rfl : ad140 = ad141 := (by injection e141)
           replace p141 := eq_true p141
           replace q141 := eq_true q141
           go_wp2_with (first | ((with_reducible refine gate_dst (N := 34) rfl ?_); refine Kd.R_lit (Kd.int .i64) _ 3 ?hg (N := 34) ?hd (xs := ([] : List Int)) (inner := []) (ok := fun _ => True) (okp := fun _ => True) ?hr ?hp (fun _ hk => hk) trivial (Below.refl _ _) (Nat.le_refl _) (by simp) ?_; (case hd => rfl); (case hg => rfl); (case hr => first | (go_simp; done) | (go_simp; rfl)); (case hp => exact (Reps.none _ _)); intro v143 w17 ho18 hb hg_ hnew_; clear hg_ hnew_; (first | rw [← Ny142.out] at ho18 | (simp only [Int.reduceToNat] at ho18; rw [← Ny142.out] at ho18)); have HO144 := am_ (Kd.R_lower (Kd.R_new' (Kd.R_newM (M := fun k_ => (P0_ k_ ∨ w.heap.size ≤ k_)) ho18 y4_ (fun k_ h_ => .inr h_)) (Kd.R_lt (rq_ HO_0.out))) (below_size (bq_))); replace HO_0 := am_ (Kd.R_elder' (rq_ HO_0.out) (Kd.R_base ho18) hb); replace HK := am_ (Kept.below (S := (fun k_ => P0_ k_)) y11_ hb); replace HB := bs_ hb; clear hb ho18; have q19 : (x5_1 : Int) ≤ ((l0.length : Int) : Int) := od_; obtain ⟨i019, hi019, _, hsz19, _⟩ := info_parts info3; have hroom19 : l0.length ≤ co16 := (Kd.R_reads' HO_0.out).2.1; have hC19 : Kd.C (Kd.int .i64) _ (some ad140) l0.length l0 := (Kd.R_reads' HO_0.out).2.2; have hcut19 := cut_to (P := Try.prog) 30 3 .i64 Try.underlying30 hi019 (some ad140) l0.length co16 x5_1 (od_) q19 hroom19; have hr19 := Kd.C_take (m := (x5_1 : Int).toNat) hC19 (by omega); have hy19 : y145.length = (x5_1 : Int).toNat := (by rw [Ny145.out, List.length_take]; omega); rw [← Ny145.out] at hr19; rw [← hy19] at hcut19; have HR148 := am_ hr19; have HC148 := am_ (show y145.length ≤ co16 from by omega); clear hr19 hC19 hroom19 hi019 hsz19; have KY19 := am_ hy19; clear hy19; have KL19 := am_ (show (x5_1 : Int).toNat ≤ l0.length from by omega); replace q19 := eq_true q19) | ((with_reducible refine gate_builtin (b := .append) (xs := #[.tmp 34, .tmp 37]) rfl ?_); at_builtin; refine Kd.R_append_rows (Kd.int .i64) (w0 := w0) w0.heap.size rfl (.tmp 34) (.tmp 37) 30 3 (.int .i64 0) 8 rfl Try.underlying30 info3 rfl (by decide) (by omega) v143 y142 y145 _ _ _ (fun k_ => (P0_ k_ ∨ w.heap.size ≤ k_) ∧ some k_ ≠ (.slice (some ad140) l0.length co16 : Value).ownBlock) (fun _ => False) rfl rfl ?aO ?aR (fun _ _ h => h) (fun _ h => h.elim) ?aF ?aB ?aS ?aL ?_; (case aR => repeat (first | exact (by repeat (first | (with_reducible exact HR148.out) | (with_reducible refine Kd.C_alloc ?_ _) | (with_reducible refine Kd.C_drewN ?_ _) | (with_reducible refine Kd.C_drew ?_) | exact HR148.out)) | (with_reducible refine Kd.C_alloc ?_ _) | (with_reducible refine Kd.C_drewN ?_ _) | (with_reducible refine Kd.C_drew ?_))); (case aB => exact (bq_)); (case aF => exact (fun k_ hk => ⟨(.inr (Nat.le_trans y4_ hk)), Kd.fresh' (Kd.R_lt (rq_ HO_0.out)) k_ hk⟩)); (case aO => exact (rq_ (Kd.R_mono HO144.out (fun _ hk => ⟨hk.1.1, hk.2⟩)))); (case aS => exact (below_size (bq_))); (case aL => have := LMc11.out; omega); intro v150 w20 ho hb hg hat; rw [← Ny149.out] at ho; replace HB := am_ (hb); replace HK := am_ (Kept.of_grown (S := (fun k_ => P0_ k_)) hg y11_ (fun k_ e_ => (HO144.out.1 k_ e_).1.1)); replace HR148 := am_ ((show Kd.C (Kd.int .i64) w20 (some ad140) y145.length y145 from by rw [Ny145.out]; exact Kd.C_take (m := (x5_1 : Int).toNat) ((Kd.R_reads' (Kd.R_after (ok := (fun k_ => (P0_ k_ ∨ w.heap.size ≤ k_))) (rq_ HO_0.out) hg hat)).2.2) KL19.out)); replace HO_0 := am_ (Kd.R_after (ok := (fun k_ => (P0_ k_ ∨ w.heap.size ≤ k_))) (rq_ HO_0.out) hg hat); have HO151 := am_ (ho); clear HO144; clear ho hb hg hat) | ((with_reducible refine gate_builtin (b := .append) (xs := #[.tmp 39, .tmp 41]) rfl ?_); at_builtin; refine Kd.R_append (Kd.int .i64) (w0 := w0) w0.heap.size rfl (.tmp 39) (.tmp 41) 30 3 (.int .i64 0) 8 rfl Try.underlying30 info3 rfl (by decide) (by omega) v150 y149 a1 [.int .i64 a1] (fun k_ => (P0_ k_ ∨ w.heap.size ≤ k_) ∧ some k_ ≠ (.slice (some ad140) l0.length co16 : Value).ownBlock) (fun _ => False) rfl rfl ?aP (fun _ hk => hk.elim) ?aF ?aO ?aB ?aS ?aL ?_; (case aP => exact rfl); (case aB => exact (bq_)); (case aF => exact (fun k_ hk => ⟨(.inr (Nat.le_trans y4_ hk)), Kd.fresh' (Kd.R_lt (rq_ HO_0.out)) k_ hk⟩)); (case aO => exact (rq_ HO151.out)); (case aS => exact (below_size (bq_))); (case aL => have := LMc12.out; omega); intro v153 w21 ho hb hg hat; rw [← Ny152.out] at ho; replace HB := am_ (hb); replace HK := am_ (Kept.of_grown (S := (fun k_ => P0_ k_)) hg y11_ (fun k_ e_ => (HO151.out.1 k_ e_).1)); replace HR148 := am_ ((show Kd.C (Kd.int .i64) w21 (some ad140) y145.length y145 from by rw [Ny145.out]; exact Kd.C_take (m := (x5_1 : Int).toNat) ((Kd.R_reads' (Kd.R_after (ok := (fun k_ => (P0_ k_ ∨ w.heap.size ≤ k_))) (rq_ HO_0.out) hg hat)).2.2) KL19.out)); replace HO_0 := am_ (Kd.R_after (ok := (fun k_ => (P0_ k_ ∨ w.heap.size ≤ k_))) (rq_ HO_0.out) hg hat); have HO154 := am_ (ho); clear HO151; clear ho hb hg hat; have q22 : (x5_1 : Int) ≤ ((l0.length : Int) : Int) := od_; obtain ⟨i022, hi022, _, hsz22, _⟩ := info_parts info3; have hroom22 : l0.length ≤ co16 := (Kd.R_reads' HO_0.out).2.1; have hC22 : Kd.C (Kd.int .i64) _ (some ad140) l0.length l0 := (Kd.R_reads' HO_0.out).2.2; have q022 : (0 : Int) ≤ (x5_1 : Int) := od_; have hcut22 := cut_from (P := Try.prog) 30 3 .i64 Try.underlying30 hi022 1 hsz22 (some ad140) l0.length co16 x5_1 q022 q22; have hr22 := Kd.C_drop (m := (x5_1 : Int).toNat) (c := co16) hC22 (by omega) hroom22; obtain ⟨A22, hA22⟩ : ∃ A1, A1 = (if co16 = (x5_1 : Int).toNat then (some ad140) else ((some ad140) : Option Addr).map (·.add ((x5_1 : Int).toNat * 1))) := ⟨_, rfl⟩; obtain ⟨c22, hc22⟩ : ∃ c1, c1 = co16 - (x5_1 : Int).toNat := ⟨_, rfl⟩; have hy22 : y155.length = l0.length - (x5_1 : Int).toNat := (by rw [Ny155.out, List.length_drop] <;> omega); rw [show (l0).drop (x5_1 : Int).toNat = y155 from Ny155.out.symm] at hr22; replace hr22 : Kd.C (Kd.int .i64) _ A22 y155.length y155 := (by rw [hA22]; exact hr22); rw [← hy22, ← hA22, ← hc22] at hcut22; have HR158 := am_ hr22; have HC158 := am_ (show y155.length ≤ c22 from by rw [hy22, hc22]; exact Nat.sub_le_sub_right hroom22 _); clear hr22 hC22 hroom22 hi022 hsz22 hc22; have KY22 := am_ hy22; have KA22 := am_ hA22; clear hy22 hA22; have KL22 := am_ (show (x5_1 : Int).toNat ≤ l0.length from by omega); replace q22 := eq_true q22) | ((with_reducible refine gate_builtin (b := .append) (xs := #[.tmp 43, .tmp 46]) rfl ?_); at_builtin; refine Kd.R_append_rows (Kd.int .i64) (w0 := w0) w0.heap.size rfl (.tmp 43) (.tmp 46) 30 3 (.int .i64 0) 8 rfl Try.underlying30 info3 rfl (by decide) (by omega) v153 y152 y155 _ _ _ (fun k_ => (P0_ k_ ∨ w.heap.size ≤ k_) ∧ some k_ ≠ (.slice (some ad140) l0.length co16 : Value).ownBlock) (fun _ => False) rfl rfl ?aO ?aR (fun _ _ h => h) (fun _ h => h.elim) ?aF ?aB ?aS ?aL ?_; (case aR => repeat (first | exact (by repeat (first | (with_reducible exact HR158.out) | (with_reducible refine Kd.C_alloc ?_ _) | (with_reducible refine Kd.C_drewN ?_ _) | (with_reducible refine Kd.C_drew ?_) | exact HR158.out)) | (with_reducible refine Kd.C_alloc ?_ _) | (with_reducible refine Kd.C_drewN ?_ _) | (with_reducible refine Kd.C_drew ?_))); (case aB => exact (bq_)); (case aF => exact (fun k_ hk => ⟨(.inr (Nat.le_trans y4_ hk)), Kd.fresh' (Kd.R_lt (rq_ HO_0.out)) k_ hk⟩)); (case aO => exact (rq_ HO154.out)); (case aS => exact (below_size (bq_))); (case aL => have := LMc15.out; omega); intro v160 w23 ho hb hg hat; rw [← Ny159.out] at ho; replace HB := am_ (hb); replace HK := am_ (Kept.of_grown (S := (fun k_ => P0_ k_)) hg y11_ (fun k_ e_ => (HO154.out.1 k_ e_).1)); replace HR148 := am_ ((show Kd.C (Kd.int .i64) w23 (some ad140) y145.length y145 from by rw [Ny145.out]; exact Kd.C_take (m := (x5_1 : Int).toNat) ((Kd.R_reads' (Kd.R_after (ok := (fun k_ => (P0_ k_ ∨ w.heap.size ≤ k_))) (rq_ HO_0.out) hg hat)).2.2) KL19.out)); replace HR158 := am_ ((show Kd.C (Kd.int .i64) w23 A22 y155.length y155 from by rw [Ny155.out, KA22.out]; exact Kd.C_drop (m := (x5_1 : Int).toNat) (c := co16) ((Kd.R_reads' (Kd.R_after (ok := (fun k_ => (P0_ k_ ∨ w.heap.size ≤ k_))) (rq_ HO_0.out) hg hat)).2.2) KL22.out ((Kd.R_reads' (Kd.R_after (ok := (fun k_ => (P0_ k_ ∨ w.heap.size ≤ k_))) (rq_ HO_0.out) hg hat)).2.1))); replace HO_0 := am_ (Kd.R_after (ok := (fun k_ => (P0_ k_ ∨ w.heap.size ≤ k_))) (rq_ HO_0.out) hg hat); have HO161 := am_ (ho); clear HO154; clear ho hb hg hat))
           go_ret
           exact ⟨_, by first | rfl | (simp [errW_none, errW_some] <;> rfl) | (simp [*, errW_none, errW_some] <;> rfl), rq_ (Kd.R_mono HO161.out (fun _ hk => hk.1)), bq_, by repeat (first | (with_reducible first | exact HK.out | apply Kept.alloc | apply Kept.drewN | apply Kept.drew) | exact HK.out)⟩
          ·rw [if_neg c15] at H
           exact absurd H (by simp)
         ·rw [if_neg c12] at H
          exact absurd H (by simp)
        ·rw [if_neg c11] at H
         exact absurd H (by simp)
       ·rw [if_neg c10] at H
        exact absurd H (by simp)
    ·rw [if_neg c4] at H
     exact absurd H (by simp)
   ·rw [if_neg c3] at H
    have c3b0 : decide (x5_1 < (l0.length : Int)) = false := decide_eq_false c3
    clear c3
    obtain ⟨y162, hy162⟩ : ∃ y_ : List Int, y_ = (([] : List Int)) := ⟨_, rfl⟩
    replace H : (if 0 ≤ x5_1 then (if x5_1 ≤ (l0.length : Int) then ((some (l0.take (x5_1 : Int).toNat : List Int)).bind fun y165 => (if y162.length + y165.length < 17592186044416 then ((some (y162 ++ y165 : List Int)).bind fun y169 => (if y169.length < 17592186044416 then ((some (y169 ++ [a1] : List Int)).bind fun y172 => ((some (l0.drop (x5_1 : Int).toNat : List Int)).bind fun y175 => (if y172.length + y175.length < 17592186044416 then (some (y172 ++ y175)) else (none)))) else (none))) else (none))) else (none)) else (none)) = some r := by first | (rw [hy162]; with_reducible exact H) | (have H2_ := (Option.bind_some _ _).symm.trans H; rw [hy162]; with_reducible exact H2_) | (have H2_ := (Option.bind_some _ _).symm.trans H; with_reducible exact H2_) | with_reducible exact H | (rw [hy162]; exact H) | exact H
    have Ny162 := am_ hy162
    clear hy162
    by_cases c24 : 0 ≤ x5_1
    ·rw [if_pos c24] at H
     have c24b0 := eq_true c24
     have c24b1 : decide (0 ≤ x5_1) = true := decide_eq_true c24
     clear c24
     by_cases c25 : x5_1 ≤ (l0.length : Int)
     ·rw [if_pos c25] at H
      have c25b0 := eq_true c25
      have c25b1 : decide (x5_1 ≤ (l0.length : Int)) = true := decide_eq_true c25
      clear c25
      obtain ⟨y165, hy165⟩ : ∃ y_ : List Int, y_ = (l0.take (x5_1 : Int).toNat) := ⟨_, rfl⟩
      replace H : (if y162.length + y165.length < 17592186044416 then ((some (y162 ++ y165 : List Int)).bind fun y169 => (if y169.length < 17592186044416 then ((some (y169 ++ [a1] : List Int)).bind fun y172 => ((some (l0.drop (x5_1 : Int).toNat : List Int)).bind fun y175 => (if y172.length + y175.length < 17592186044416 then (some (y172 ++ y175)) else (none)))) else (none))) else (none)) = some r := by first | (rw [hy165]; with_reducible exact H) | (have H2_ := (Option.bind_some _ _).symm.trans H; rw [hy165]; with_reducible exact H2_) | (have H2_ := (Option.bind_some _ _).symm.trans H; with_reducible exact H2_) | with_reducible exact H | (rw [hy165]; exact H) | exact H
      have Ny165 := am_ hy165
      clear hy165
      by_cases c26 : y162.length + y165.length < 17592186044416
      ·rw [if_pos c26] at H
       have LMc26 := am_ c26
       clear c26
       obtain ⟨y169, hy169⟩ : ∃ y_ : List Int, y_ = (y162 ++ y165) := ⟨_, rfl⟩
       replace H : (if y169.length < 17592186044416 then ((some (y169 ++ [a1] : List Int)).bind fun y172 => ((some (l0.drop (x5_1 : Int).toNat : List Int)).bind fun y175 => (if y172.length + y175.length < 17592186044416 then (some (y172 ++ y175)) else (none)))) else (none)) = some r := by first | (rw [hy169]; with_reducible exact H) | (have H2_ := (Option.bind_some _ _).symm.trans H; rw [hy169]; with_reducible exact H2_) | (have H2_ := (Option.bind_some _ _).symm.trans H; with_reducible exact H2_) | with_reducible exact H | (rw [hy169]; exact H) | exact H
       have Ny169 := am_ hy169
       clear hy169
       by_cases c27 : y169.length < 17592186044416
       ·rw [if_pos c27] at H
        have LMc27 := am_ c27
        clear c27
        obtain ⟨y172, hy172⟩ : ∃ y_ : List Int, y_ = (y169 ++ [a1]) := ⟨_, rfl⟩
        replace H : ((some (l0.drop (x5_1 : Int).toNat : List Int)).bind fun y175 => (if y172.length + y175.length < 17592186044416 then (some (y172 ++ y175)) else (none))) = some r := by first | (rw [hy172]; with_reducible exact H) | (have H2_ := (Option.bind_some _ _).symm.trans H; rw [hy172]; with_reducible exact H2_) | (have H2_ := (Option.bind_some _ _).symm.trans H; with_reducible exact H2_) | with_reducible exact H | (rw [hy172]; exact H) | exact H
        have Ny172 := am_ hy172
        clear hy172
        have c28b0 := eq_true (od_ : 0 ≤ x5_1)
        have c29b0 := eq_true (od_ : x5_1 ≤ (l0.length : Int))
        obtain ⟨y175, hy175⟩ : ∃ y_ : List Int, y_ = (l0.drop (x5_1 : Int).toNat) := ⟨_, rfl⟩
        replace H : (if y172.length + y175.length < 17592186044416 then (some (y172 ++ y175)) else (none)) = some r := by first | (rw [hy175]; with_reducible exact H) | (have H2_ := (Option.bind_some _ _).symm.trans H; rw [hy175]; with_reducible exact H2_) | (have H2_ := (Option.bind_some _ _).symm.trans H; with_reducible exact H2_) | with_reducible exact H | (rw [hy175]; exact H) | exact H
        have Ny175 := am_ hy175
        clear hy175
        by_cases c30 : y172.length + y175.length < 17592186044416
        ·rw [if_pos c30] at H
         have LMc30 := am_ c30
         clear c30
         obtain ⟨y179, hy179⟩ : ∃ y_ : List Int, y_ = (y172 ++ y175) := ⟨_, rfl⟩
         replace H : (some y179) = some r := by first | (rw [hy179]; with_reducible exact H) | (have H2_ := (Option.bind_some _ _).symm.trans H; rw [hy179]; with_reducible exact H2_) | (have H2_ := (Option.bind_some _ _).symm.trans H; with_reducible exact H2_) | with_reducible exact H | (rw [hy179]; exact H) | exact H
         have Ny179 := am_ hy179
         clear hy179
         obtain rfl := Option.some.inj H
         obtain ⟨Ao31, co31, eo31⟩ := Kd.R_slice HO_0.out
         subst eo31
         go_wp2_with (first | ((with_reducible refine gate_dst (N := 34) rfl ?_); refine Kd.R_lit (Kd.int .i64) _ 3 ?hg (N := 34) ?hd (xs := ([] : List Int)) (inner := []) (ok := fun _ => True) (okp := fun _ => True) ?hr ?hp (fun _ hk => hk) trivial (Below.refl _ _) (Nat.le_refl _) (by simp) ?_; (case hd => rfl); (case hg => rfl); (case hr => first | (go_simp; done) | (go_simp; rfl)); (case hp => exact (Reps.none _ _)); intro v163 w32 ho33 hb hg_ hnew_; clear hg_ hnew_; (first | rw [← Ny162.out] at ho33 | (simp only [Int.reduceToNat] at ho33; rw [← Ny162.out] at ho33)); have HO164 := am_ (Kd.R_lower (Kd.R_new' (Kd.R_newM (M := fun k_ => (P0_ k_ ∨ w.heap.size ≤ k_)) ho33 y4_ (fun k_ h_ => .inr h_)) (Kd.R_lt (rq_ HO_0.out))) (below_size (bq_))); replace HO_0 := am_ (Kd.R_elder' (rq_ HO_0.out) (Kd.R_base ho33) hb); replace HK := am_ (Kept.below (S := (fun k_ => P0_ k_)) y11_ hb); replace HB := bs_ hb; clear hb ho33; have q34 : (x5_1 : Int) ≤ ((l0.length : Int) : Int) := od_; obtain ⟨i034, hi034, _, hsz34, _⟩ := info_parts info3; have hroom34 : l0.length ≤ co31 := (Kd.R_reads' HO_0.out).2.1; have hC34 : Kd.C (Kd.int .i64) _ Ao31 l0.length l0 := (Kd.R_reads' HO_0.out).2.2; have hcut34 := cut_to (P := Try.prog) 30 3 .i64 Try.underlying30 hi034 Ao31 l0.length co31 x5_1 (od_) q34 hroom34; have hr34 := Kd.C_take (m := (x5_1 : Int).toNat) hC34 (by omega); have hy34 : y165.length = (x5_1 : Int).toNat := (by rw [Ny165.out, List.length_take]; omega); rw [← Ny165.out] at hr34; rw [← hy34] at hcut34; have HR168 := am_ hr34; have HC168 := am_ (show y165.length ≤ co31 from by omega); clear hr34 hC34 hroom34 hi034 hsz34; have KY34 := am_ hy34; clear hy34; have KL34 := am_ (show (x5_1 : Int).toNat ≤ l0.length from by omega); replace q34 := eq_true q34) | ((with_reducible refine gate_builtin (b := .append) (xs := #[.tmp 34, .tmp 37]) rfl ?_); at_builtin; refine Kd.R_append_rows (Kd.int .i64) (w0 := w0) w0.heap.size rfl (.tmp 34) (.tmp 37) 30 3 (.int .i64 0) 8 rfl Try.underlying30 info3 rfl (by decide) (by omega) v163 y162 y165 _ _ _ (fun k_ => (P0_ k_ ∨ w.heap.size ≤ k_) ∧ some k_ ≠ (.slice Ao31 l0.length co31 : Value).ownBlock) (fun _ => False) rfl rfl ?aO ?aR (fun _ _ h => h) (fun _ h => h.elim) ?aF ?aB ?aS ?aL ?_; (case aR => repeat (first | exact (by repeat (first | (with_reducible exact HR168.out) | (with_reducible refine Kd.C_alloc ?_ _) | (with_reducible refine Kd.C_drewN ?_ _) | (with_reducible refine Kd.C_drew ?_) | exact HR168.out)) | (with_reducible refine Kd.C_alloc ?_ _) | (with_reducible refine Kd.C_drewN ?_ _) | (with_reducible refine Kd.C_drew ?_))); (case aB => exact (bq_)); (case aF => exact (fun k_ hk => ⟨(.inr (Nat.le_trans y4_ hk)), Kd.fresh' (Kd.R_lt (rq_ HO_0.out)) k_ hk⟩)); (case aO => exact (rq_ (Kd.R_mono HO164.out (fun _ hk => ⟨hk.1.1, hk.2⟩)))); (case aS => exact (below_size (bq_))); (case aL => have := LMc26.out; omega); intro v170 w35 ho hb hg hat; rw [← Ny169.out] at ho; replace HB := am_ (hb); replace HK := am_ (Kept.of_grown (S := (fun k_ => P0_ k_)) hg y11_ (fun k_ e_ => (HO164.out.1 k_ e_).1.1)); replace HR168 := am_ ((show Kd.C (Kd.int .i64) w35 Ao31 y165.length y165 from by rw [Ny165.out]; exact Kd.C_take (m := (x5_1 : Int).toNat) ((Kd.R_reads' (Kd.R_after (ok := (fun k_ => (P0_ k_ ∨ w.heap.size ≤ k_))) (rq_ HO_0.out) hg hat)).2.2) KL34.out)); replace HO_0 := am_ (Kd.R_after (ok := (fun k_ => (P0_ k_ ∨ w.heap.size ≤ k_))) (rq_ HO_0.out) hg hat); have HO171 := am_ (ho); clear HO164; clear ho hb hg hat) | ((with_reducible refine gate_builtin (b := .append) (xs := #[.tmp 39, .tmp 41]) rfl ?_); at_builtin; refine Kd.R_append (Kd.int .i64) (w0 := w0) w0.heap.size rfl (.tmp 39) (.tmp 41) 30 3 (.int .i64 0) 8 rfl Try.underlying30 info3 rfl (by decide) (by omega) v170 y169 a1 [.int .i64 a1] (fun k_ => (P0_ k_ ∨ w.heap.size ≤ k_) ∧ some k_ ≠ (.slice Ao31 l0.length co31 : Value).ownBlock) (fun _ => False) rfl rfl ?aP (fun _ hk => hk.elim) ?aF ?aO ?aB ?aS ?aL ?_; (case aP => exact rfl); (case aB => exact (bq_)); (case aF => exact (fun k_ hk => ⟨(.inr (Nat.le_trans y4_ hk)), Kd.fresh' (Kd.R_lt (rq_ HO_0.out)) k_ hk⟩)); (case aO => exact (rq_ HO171.out)); (case aS => exact (below_size (bq_))); (case aL => have := LMc27.out; omega); intro v173 w36 ho hb hg hat; rw [← Ny172.out] at ho; replace HB := am_ (hb); replace HK := am_ (Kept.of_grown (S := (fun k_ => P0_ k_)) hg y11_ (fun k_ e_ => (HO171.out.1 k_ e_).1)); replace HR168 := am_ ((show Kd.C (Kd.int .i64) w36 Ao31 y165.length y165 from by rw [Ny165.out]; exact Kd.C_take (m := (x5_1 : Int).toNat) ((Kd.R_reads' (Kd.R_after (ok := (fun k_ => (P0_ k_ ∨ w.heap.size ≤ k_))) (rq_ HO_0.out) hg hat)).2.2) KL34.out)); replace HO_0 := am_ (Kd.R_after (ok := (fun k_ => (P0_ k_ ∨ w.heap.size ≤ k_))) (rq_ HO_0.out) hg hat); have HO174 := am_ (ho); clear HO171; clear ho hb hg hat; have q37 : (x5_1 : Int) ≤ ((l0.length : Int) : Int) := od_; obtain ⟨i037, hi037, _, hsz37, _⟩ := info_parts info3; have hroom37 : l0.length ≤ co31 := (Kd.R_reads' HO_0.out).2.1; have hC37 : Kd.C (Kd.int .i64) _ Ao31 l0.length l0 := (Kd.R_reads' HO_0.out).2.2; have q037 : (0 : Int) ≤ (x5_1 : Int) := od_; have hcut37 := cut_from (P := Try.prog) 30 3 .i64 Try.underlying30 hi037 1 hsz37 Ao31 l0.length co31 x5_1 q037 q37; have hr37 := Kd.C_drop (m := (x5_1 : Int).toNat) (c := co31) hC37 (by omega) hroom37; obtain ⟨A37, hA37⟩ : ∃ A1, A1 = (if co31 = (x5_1 : Int).toNat then Ao31 else (Ao31 : Option Addr).map (·.add ((x5_1 : Int).toNat * 1))) := ⟨_, rfl⟩; obtain ⟨c37, hc37⟩ : ∃ c1, c1 = co31 - (x5_1 : Int).toNat := ⟨_, rfl⟩; have hy37 : y175.length = l0.length - (x5_1 : Int).toNat := (by rw [Ny175.out, List.length_drop] <;> omega); rw [show (l0).drop (x5_1 : Int).toNat = y175 from Ny175.out.symm] at hr37; replace hr37 : Kd.C (Kd.int .i64) _ A37 y175.length y175 := (by rw [hA37]; exact hr37); rw [← hy37, ← hA37, ← hc37] at hcut37; have HR178 := am_ hr37; have HC178 := am_ (show y175.length ≤ c37 from by rw [hy37, hc37]; exact Nat.sub_le_sub_right hroom37 _); clear hr37 hC37 hroom37 hi037 hsz37 hc37; have KY37 := am_ hy37; have KA37 := am_ hA37; clear hy37 hA37; have KL37 := am_ (show (x5_1 : Int).toNat ≤ l0.length from by omega); replace q37 := eq_true q37) | ((with_reducible refine gate_builtin (b := .append) (xs := #[.tmp 43, .tmp 46]) rfl ?_); at_builtin; refine Kd.R_append_rows (Kd.int .i64) (w0 := w0) w0.heap.size rfl (.tmp 43) (.tmp 46) 30 3 (.int .i64 0) 8 rfl Try.underlying30 info3 rfl (by decide) (by omega) v173 y172 y175 _ _ _ (fun k_ => (P0_ k_ ∨ w.heap.size ≤ k_) ∧ some k_ ≠ (.slice Ao31 l0.length co31 : Value).ownBlock) (fun _ => False) rfl rfl ?aO ?aR (fun _ _ h => h) (fun _ h => h.elim) ?aF ?aB ?aS ?aL ?_; (case aR => repeat (first | exact (by repeat (first | (with_reducible exact HR178.out) | (with_reducible refine Kd.C_alloc ?_ _) | (with_reducible refine Kd.C_drewN ?_ _) | (with_reducible refine Kd.C_drew ?_) | exact HR178.out)) | (with_reducible refine Kd.C_alloc ?_ _) | (with_reducible refine Kd.C_drewN ?_ _) | (with_reducible refine Kd.C_drew ?_))); (case aB => exact (bq_)); (case aF => exact (fun k_ hk => ⟨(.inr (Nat.le_trans y4_ hk)), Kd.fresh' (Kd.R_lt (rq_ HO_0.out)) k_ hk⟩)); (case aO => exact (rq_ HO174.out)); (case aS => exact (below_size (bq_))); (case aL => have := LMc30.out; omega); intro v180 w38 ho hb hg hat; rw [← Ny179.out] at ho; replace HB := am_ (hb); replace HK := am_ (Kept.of_grown (S := (fun k_ => P0_ k_)) hg y11_ (fun k_ e_ => (HO174.out.1 k_ e_).1)); replace HR168 := am_ ((show Kd.C (Kd.int .i64) w38 Ao31 y165.length y165 from by rw [Ny165.out]; exact Kd.C_take (m := (x5_1 : Int).toNat) ((Kd.R_reads' (Kd.R_after (ok := (fun k_ => (P0_ k_ ∨ w.heap.size ≤ k_))) (rq_ HO_0.out) hg hat)).2.2) KL34.out)); replace HR178 := am_ ((show Kd.C (Kd.int .i64) w38 A37 y175.length y175 from by rw [Ny175.out, KA37.out]; exact Kd.C_drop (m := (x5_1 : Int).toNat) (c := co31) ((Kd.R_reads' (Kd.R_after (ok := (fun k_ => (P0_ k_ ∨ w.heap.size ≤ k_))) (rq_ HO_0.out) hg hat)).2.2) KL37.out ((Kd.R_reads' (Kd.R_after (ok := (fun k_ => (P0_ k_ ∨ w.heap.size ≤ k_))) (rq_ HO_0.out) hg hat)).2.1))); replace HO_0 := am_ (Kd.R_after (ok := (fun k_ => (P0_ k_ ∨ w.heap.size ≤ k_))) (rq_ HO_0.out) hg hat); have HO181 := am_ (ho); clear HO174; clear ho hb hg hat))
         go_ret
         exact ⟨_, by first | rfl | (simp [errW_none, errW_some] <;> rfl) | (simp [*, errW_none, errW_some] <;> rfl), rq_ (Kd.R_mono HO181.out (fun _ hk => hk.1)), bq_, by repeat (first | (with_reducible first | exact HK.out | apply Kept.alloc | apply Kept.drewN | apply Kept.drew) | exact HK.out)⟩
        ·rw [if_neg c30] at H
         exact absurd H (by simp)
       ·rw [if_neg c27] at H
        exact absurd H (by simp)
      ·rw [if_neg c26] at H
       exact absurd H (by simp)
     ·rw [if_neg c25] at H
      exact absurd H (by simp)
    ·rw [if_neg c24] at H
     exact absurd H (by simp)
def spec_l1Has.l0 : Nat → Int → List Int → Int → Int → Option (Bool)
 | 0, _, _, _, _ => none
 | k + 1, x1, x7, x8, x9 => if x9 < x8 then (if 0 ≤ x9 then (if x9 < (x7.length : Int) then (if (rd x7 x9) = x1 then (some true) else (spec_l1Has.l0 k x1 x7 x8 (wrap64 (x9 + 1)))) else (none)) else (none)) else (some false)
def spec_l1Has.f (k : Nat) (l0 : List Int) (a1 : Int) : Option (Bool) := spec_l1Has.l0 k a1 l0 (l0.length : Int) 0
set_option maxHeartbeats 8000000 in
set_option maxRecDepth 100000 in
theorem spec_l1Has.calls (k : Nat) (A0 : Option Addr) (c0 : Nat) (l0 : List Int) (a1 : Int) (r : Bool) (w : World) (hr0 : Kd.C (Kd.int .i64) w A0 l0.length l0) (hc0 : l0.length ≤ c0) (h : spec_l1Has.f k l0 a1 = some r) :
  Calls Try.prog 55 #[.slice A0 l0.length c0, .int .i64 a1] w fun e w' => e = .returned (.bool r) ∧ Drawn0 w w' := by
 have HR0 := am_ hr0
 have HC0 := am_ hc0
 clear hr0 hc0
 have H : (spec_l1Has.l0 k a1 l0 (l0.length : Int) 0) = some r := h
 clear h
 have H' := am_ H
 clear H
 go_enter Try.func55, Try.ntmps55
 go_wp2
 go_loopg [9] k (fun kq v9 w' => ∃ (x9_1 : Int), v9 = .int .i64 x9_1 ∧ Aside0 (spec_l1Has.l0 kq a1 l0 (l0.length : Int) x9_1 = some r) ∧ Aside0 (kq ≤ k) ∧ Drawn0 w w')
 case atStart => exact ⟨(0), y14_, H', ⟨Nat.le_refl _⟩, by repeat (first | exact Drawn0.refl _ | apply Drawn0.step)⟩
 case round =>
  clear H'
  try clear p2
  obtain ⟨x9_1, rfl, HA, HK1, ⟨m1, rfl⟩⟩ := hrel
  cases gk with
  | zero => exact absurd HA.out (by simp [spec_l1Has.l0])
  | succ k1 =>
   have H := HA.out
   clear HA
   simp only [spec_l1Has.l0] at H
   by_cases c3 : x9_1 < (l0.length : Int)
   ·rw [if_pos c3] at H
    have c3b0 : decide (x9_1 < (l0.length : Int)) = true := decide_eq_true c3
    clear c3
    by_cases c4 : 0 ≤ x9_1
    ·rw [if_pos c4] at H
     have c4b0 : decide (0 ≤ x9_1) = true := decide_eq_true c4
     clear c4
     by_cases c5 : x9_1 < (l0.length : Int)
     ·rw [if_pos c5] at H
      have c5b0 : decide (x9_1 < (l0.length : Int)) = true := decide_eq_true c5
      clear c5
      by_cases c6 : (rd l0 x9_1) = a1
      ·rw [if_pos c6] at H
       have c6b0 : ((rd l0 x9_1) == a1) = true := beq_iff_eq.mpr c6
       have c6b1 : ((rd l0 x9_1) != a1) = false := bne_eq_false_iff_eq.mpr c6
       clear c6
       obtain rfl := Option.some.inj H
       have p182 : 0 ≤ (x9_1 : Int) := od_
       have q182 : x9_1 < (l0.length : Int) := od_
       obtain ⟨ad182, e182, hx182_0⟩ := Kd.at_int HR0.out x9_1 p182 q182
       cases e182
       replace p182 := eq_true p182
       replace q182 := eq_true q182
       go_wp2
       go_ret
       exact ⟨by first | rfl | (simp; done) | (simp [*]; done), by repeat (first | exact Drawn0.refl _ | apply Drawn0.step)⟩
      ·rw [if_neg c6] at H
       have c6b0 : ((rd l0 x9_1) == a1) = false := beq_eq_false_iff_ne.mpr c6
       have c6b1 : ((rd l0 x9_1) != a1) = true := bne_iff_ne.mpr c6
       have H' := am_ H
       clear H
       have p182 : 0 ≤ (x9_1 : Int) := od_
       have q182 : x9_1 < (l0.length : Int) := od_
       obtain ⟨ad182, e182, hx182_0⟩ := Kd.at_int HR0.out x9_1 p182 q182
       cases e182
       replace p182 := eq_true p182
       replace q182 := eq_true q182
       go_wp2
       go_roundg k1
       case measure => have := HK1.out; omega
       case rel => exact ⟨(wrap64 (x9_1 + 1)), y14_, H', ⟨by have := HK1.out; omega⟩, by repeat (first | exact Drawn0.refl _ | apply Drawn0.step)⟩
     ·rw [if_neg c5] at H
      exact absurd H (by simp)
    ·rw [if_neg c4] at H
     exact absurd H (by simp)
   ·rw [if_neg c3] at H
    have c3b0 : decide (x9_1 < (l0.length : Int)) = false := decide_eq_false c3
    clear c3
    obtain rfl := Option.some.inj H
    go_wp2
    go_ret
    exact ⟨by first | rfl | (simp; done) | (simp [*]; done), by repeat (first | exact Drawn0.refl _ | apply Drawn0.step)⟩
end Go.Proofs.Ytcmhkgpalfljbaa.PPA
