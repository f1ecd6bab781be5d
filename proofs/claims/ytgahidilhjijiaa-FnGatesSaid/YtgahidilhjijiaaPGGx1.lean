import Derived.Test.YtgahidilhjijiaaPGGx0
namespace Go.Proofs.Ytgahidilhjijiaa.PGG
open Go.RowKit Go.Proofs.YtgahidilhjijiaaW.PrintWords Go.Proofs.YtgahidilhjijiaaW.PrintLast Go.Proofs.YtgahidilhjijiaaW.PrintMore
attribute [local go_sem] max2_int min2_int max_two min_two max_three min_three max_four min_four   -- for this text's walks alone
set_option linter.unusedVariables false
set_option linter.unusedSimpArgs false
def spec_l1In.f (a0 : Int) (a1 : Int) (a2 : Int) : Option (Bool) := if a0 ≥ a1 then (some (decide (a0 ≤ a2))) else (some false)
set_option maxHeartbeats 8000000 in
set_option maxRecDepth 100000 in
theorem spec_l1In.calls (a0 : Int) (a1 : Int) (a2 : Int) (r : Bool) (w : World) (h : spec_l1In.f a0 a1 a2 = some r) :
  Calls Try.prog 69 #[.int .i64 a0, .int .i64 a1, .int .i64 a2] w fun e w' => e = .returned (.bool r) ∧ Drawn0 w w' := by
 have H : (if a0 ≥ a1 then (some (decide (a0 ≤ a2))) else (some false)) = some r := h
 clear h
 by_cases c4 : a0 ≥ a1
 ·rw [if_pos c4] at H
  have c4b0 : decide (a1 ≤ a0) = true := decide_eq_true c4
  clear c4
  obtain rfl := Option.some.inj H
  go_enter Try.func69, Try.ntmps69
  go_wp2
  go_ret
  exact ⟨by first | rfl | (simp; done) | (simp [*]; done), by repeat (first | exact Drawn0.refl _ | apply Drawn0.step)⟩
 ·rw [if_neg c4] at H
  have c4b0 : decide (a1 ≤ a0) = false := decide_eq_false c4
  clear c4
  obtain rfl := Option.some.inj H
  go_enter Try.func69, Try.ntmps69
  go_wp2
  go_ret
  exact ⟨by first | rfl | (simp; done) | (simp [*]; done), by repeat (first | exact Drawn0.refl _ | apply Drawn0.step)⟩
mutual
def spec_GoodGates.l0 : Nat → List (S69) → List (S69) → Int → Int → Option (Bool)
 | 0, _, _, _, _ => none
 | k + 1, x0, x7, x8, x9 => if x9 < x8 then (if 0 ≤ x9 then (if x9 < (x7.length : Int) then ((spec_l1In.f ((rd_T69 x7 x9).f1) 0 (wrap64 (x9 - 1))).bind fun t104 => ((spec_l1In.f ((rd_T69 x7 x9).f2) 0 (wrap64 (x9 - 1))).bind fun t105 => (if ((rd_T69 x7 x9).f0) = 1 then (if ((rd_T69 x7 x9).f1) = 0 then (if ((rd_T69 x7 x9).f2) = 0 then (spec_GoodGates.l0 k x0 x7 x8 (wrap64 (x9 + 1))) else (some false)) else (some false)) else (if ((rd_T69 x7 x9).f0) = 2 then (if t104 = true then (if ((rd_T69 x7 x9).f2) = 0 then (spec_GoodGates.l0 k x0 x7 x8 (wrap64 (x9 + 1))) else (some false)) else (some false)) else (if ((rd_T69 x7 x9).f0) = 3 then (spec_GoodGates.j1 k x0 t104 t105 x7 x8 x9 (((rd_T69 x7 x9).f0) == 3)) else (if ((rd_T69 x7 x9).f0) = 4 then (spec_GoodGates.j1 k x0 t104 t105 x7 x8 x9 (((rd_T69 x7 x9).f0) == 4)) else (spec_GoodGates.j1 k x0 t104 t105 x7 x8 x9 (((rd_T69 x7 x9).f0) == 5)))))))) else (none)) else (none)) else ((spec_l1In.f (x0.length : Int) 1 12).bind fun t101 => (some t101))
def spec_GoodGates.j1 : Nat → List (S69) → Bool → Bool → List (S69) → Int → Int → Bool → Option (Bool)
 | 0, _, _, _, _, _, _, _ => none
 | k + 1, x0, x5, x6, x7, x8, x9, x45 => if x45 = true then (if x5 = true then (if x6 = true then (spec_GoodGates.l0 k x0 x7 x8 (wrap64 (x9 + 1))) else (some false)) else (some false)) else (some false)
end
def spec_GoodGates.f (k : Nat) (l0 : List (S69)) : Option (Bool) := spec_GoodGates.l0 k l0 l0 (l0.length : Int) 0
set_option maxHeartbeats 8000000 in
set_option maxRecDepth 100000 in
theorem spec_GoodGates.calls (k : Nat) (A0 : Option Addr) (c0 : Nat) (l0 : List (S69)) (r : Bool) (w : World) (hr0 : Kd.C k69 w A0 l0.length l0) (hc0 : l0.length ≤ c0) (h : spec_GoodGates.f k l0 = some r) :
  Calls Try.prog 41 #[.slice A0 l0.length c0] w fun e w' => e = .returned (.bool r) ∧ Below w.heap.size w w' := by
 have hu69 := Try.underlying69
 have HR0 := am_ hr0
 have HC0 := am_ hc0
 clear hr0 hc0
 have HB := am_ (Below.refl w.heap.size w)
 have H : (spec_GoodGates.l0 k l0 l0 (l0.length : Int) 0) = some r := h
 clear h
 have H' := am_ H
 clear H
 go_enter Try.func41, Try.ntmps41
 go_wp2
 go_loopg [9] k (fun kq v9 w' => ∃ (x9_1 : Int), v9 = .int .i64 x9_1 ∧ Aside0 (spec_GoodGates.l0 kq l0 l0 (l0.length : Int) x9_1 = some r) ∧ Aside0 (kq ≤ k) ∧ Aside0 (Below w.heap.size w w'))
 case atStart => exact ⟨(0), y53_, H', ⟨Nat.le_refl _⟩, ⟨bq_⟩⟩
 case round =>
  clear H'
  obtain ⟨x9_1, rfl, HA, HK1, HB⟩ := hrel
  cases gk with
  | zero => exact absurd HA.out (by simp [spec_GoodGates.l0])
  | succ k1 =>
   have H := HA.out
   clear HA
   simp only [spec_GoodGates.l0] at H
   by_cases c2 : x9_1 < (l0.length : Int)
   ·rw [if_pos c2] at H
    have c2b0 : decide (x9_1 < (l0.length : Int)) = true := decide_eq_true c2
    clear c2
    by_cases c3 : 0 ≤ x9_1
    ·rw [if_pos c3] at H
     have c3b0 : decide (0 ≤ x9_1) = true := decide_eq_true c3
     clear c3
     by_cases c4 : x9_1 < (l0.length : Int)
     ·rw [if_pos c4] at H
      have c4b0 : decide (x9_1 < (l0.length : Int)) = true := decide_eq_true c4
      clear c4
      replace H := Option.bind_eq_some_iff.mp H
      obtain ⟨t104, A50, H⟩ := H
      replace H : ((spec_l1In.f ((rd_T69 l0 x9_1).f2) 0 (wrap64 (x9_1 - 1))).bind fun t105 => (if ((rd_T69 l0 x9_1).f0) = 1 then (if ((rd_T69 l0 x9_1).f1) = 0 then (if ((rd_T69 l0 x9_1).f2) = 0 then (spec_GoodGates.l0 k1 l0 l0 (l0.length : Int) (wrap64 (x9_1 + 1))) else (some false)) else (some false)) else (if ((rd_T69 l0 x9_1).f0) = 2 then (if t104 = true then (if ((rd_T69 l0 x9_1).f2) = 0 then (spec_GoodGates.l0 k1 l0 l0 (l0.length : Int) (wrap64 (x9_1 + 1))) else (some false)) else (some false)) else (if ((rd_T69 l0 x9_1).f0) = 3 then (spec_GoodGates.j1 k1 l0 t104 t105 l0 (l0.length : Int) x9_1 (((rd_T69 l0 x9_1).f0) == 3)) else (if ((rd_T69 l0 x9_1).f0) = 4 then (spec_GoodGates.j1 k1 l0 t104 t105 l0 (l0.length : Int) x9_1 (((rd_T69 l0 x9_1).f0) == 4)) else (spec_GoodGates.j1 k1 l0 t104 t105 l0 (l0.length : Int) x9_1 (((rd_T69 l0 x9_1).f0) == 5))))))) = some r := H
      have A5 := am_ A50
      clear A50
      replace H := Option.bind_eq_some_iff.mp H
      obtain ⟨t105, A60, H⟩ := H
      replace H : (if ((rd_T69 l0 x9_1).f0) = 1 then (if ((rd_T69 l0 x9_1).f1) = 0 then (if ((rd_T69 l0 x9_1).f2) = 0 then (spec_GoodGates.l0 k1 l0 l0 (l0.length : Int) (wrap64 (x9_1 + 1))) else (some false)) else (some false)) else (if ((rd_T69 l0 x9_1).f0) = 2 then (if t104 = true then (if ((rd_T69 l0 x9_1).f2) = 0 then (spec_GoodGates.l0 k1 l0 l0 (l0.length : Int) (wrap64 (x9_1 + 1))) else (some false)) else (some false)) else (if ((rd_T69 l0 x9_1).f0) = 3 then (spec_GoodGates.j1 k1 l0 t104 t105 l0 (l0.length : Int) x9_1 (((rd_T69 l0 x9_1).f0) == 3)) else (if ((rd_T69 l0 x9_1).f0) = 4 then (spec_GoodGates.j1 k1 l0 t104 t105 l0 (l0.length : Int) x9_1 (((rd_T69 l0 x9_1).f0) == 4)) else (spec_GoodGates.j1 k1 l0 t104 t105 l0 (l0.length : Int) x9_1 (((rd_T69 l0 x9_1).f0) == 5)))))) = some r := H
      have A6 := am_ A60
      clear A60
      by_cases c7 : ((rd_T69 l0 x9_1).f0) = 1
      ·rw [if_pos c7] at H
       have c7b0 : (((rd_T69 l0 x9_1).f0) == 1) = true := beq_iff_eq.mpr c7
       have c7b1 : (((rd_T69 l0 x9_1).f0) != 1) = false := bne_eq_false_iff_eq.mpr c7
       clear c7
       by_cases c8 : ((rd_T69 l0 x9_1).f1) = 0
       ·rw [if_pos c8] at H
        have c8b0 : (((rd_T69 l0 x9_1).f1) == 0) = true := beq_iff_eq.mpr c8
        have c8b1 : (((rd_T69 l0 x9_1).f1) != 0) = false := bne_eq_false_iff_eq.mpr c8
        clear c8
        by_cases c9 : ((rd_T69 l0 x9_1).f2) = 0
        ·rw [if_pos c9] at H
         have c9b0 : (((rd_T69 l0 x9_1).f2) == 0) = true := beq_iff_eq.mpr c9
         have c9b1 : (((rd_T69 l0 x9_1).f2) != 0) = false := bne_eq_false_iff_eq.mpr c9
         clear c9
         have H' := am_ H
         clear H
         have p102 : 0 ≤ (x9_1 : Int) := od_
         have q102 : x9_1 < (l0.length : Int) := od_
         obtain ⟨ad102, e102, hx102_0, hx102_1, hx102_2⟩ := at_T69 HR0.out x9_1 p102 q102
         cases e102
         replace hx102_0 := (HB.out.cell (World.block_lt_of_cell? w _ hx102_0)).trans hx102_0
         replace hx102_1 := (HB.out.cell (World.block_lt_of_cell? w _ hx102_1)).trans hx102_1
         replace hx102_2 := (HB.out.cell (World.block_lt_of_cell? w _ hx102_2)).trans hx102_2
         replace p102 := eq_true p102
         replace q102 := eq_true q102
         go_wp2_with (first | ((with_reducible refine gate_dst (N := 4) rfl ?_); refine boxq_ (N := 4) (cs := #[.int .i64 0, .int .i64 0, .int .i64 0]) (t := 69) ?_; intro gb103 hg w10 hbox hb; have BK103 := am_ (hbox); have GW103 := gz_ hg; have GE103 := gz_ hg; replace HB := bs_ hb; clear hb hbox hg; have hcz11_0 := cq_ BK103.out 0 (.int .i64 0); have hcz11_1 := cq_ BK103.out 1 (.int .i64 0); have hcz11_2 := cq_ BK103.out 2 (.int .i64 0); have hfz11_0 := blk_frozen BK103.out 0; have hfz11_1 := blk_frozen BK103.out 1; have hfz11_2 := blk_frozen BK103.out 2) | ((with_reducible refine gl_ 69 rfl ?_); refine goesM_ (some 18) Try.func69 #[.int .i64 ((rd_T69 l0 x9_1).f1), .int .i64 0, .int .i64 (wrap64 (x9_1 - 1))] ?_; (with_reducible refine (spec_l1In.calls ((rd_T69 l0 x9_1).f1) 0 (wrap64 (x9_1 - 1)) t104 _ A5.out).mono ?_); rintro e w' ⟨rfl, ⟨nd, rfl⟩⟩; refine ⟨_, rfl, ?_⟩) | ((with_reducible refine gl_ 69 rfl ?_); refine goesM_ (some 23) Try.func69 #[.int .i64 ((rd_T69 l0 x9_1).f2), .int .i64 0, .int .i64 (wrap64 (x9_1 - 1))] ?_; (with_reducible refine (spec_l1In.calls ((rd_T69 l0 x9_1).f2) 0 (wrap64 (x9_1 - 1)) t105 _ A6.out).mono ?_); rintro e w' ⟨rfl, ⟨nd, rfl⟩⟩; refine ⟨_, rfl, ?_⟩))
         go_roundg k1
         case measure => have := HK1.out; omega
         case rel => exact ⟨(wrap64 (x9_1 + 1)), y53_, H', ⟨by have := HK1.out; omega⟩, ⟨bq_⟩⟩
        ·rw [if_neg c9] at H
         have c9b0 : (((rd_T69 l0 x9_1).f2) == 0) = false := beq_eq_false_iff_ne.mpr c9
         have c9b1 : (((rd_T69 l0 x9_1).f2) != 0) = true := bne_iff_ne.mpr c9
         obtain rfl := Option.some.inj H
         have p102 : 0 ≤ (x9_1 : Int) := od_
         have q102 : x9_1 < (l0.length : Int) := od_
         obtain ⟨ad102, e102, hx102_0, hx102_1, hx102_2⟩ := at_T69 HR0.out x9_1 p102 q102
         cases e102
         replace hx102_0 := (HB.out.cell (World.block_lt_of_cell? w _ hx102_0)).trans hx102_0
         replace hx102_1 := (HB.out.cell (World.block_lt_of_cell? w _ hx102_1)).trans hx102_1
         replace hx102_2 := (HB.out.cell (World.block_lt_of_cell? w _ hx102_2)).trans hx102_2
         replace p102 := eq_true p102
         replace q102 := eq_true q102
         go_wp2_with (first | ((with_reducible refine gate_dst (N := 4) rfl ?_); refine boxq_ (N := 4) (cs := #[.int .i64 0, .int .i64 0, .int .i64 0]) (t := 69) ?_; intro gb103 hg w12 hbox hb; have BK103 := am_ (hbox); have GW103 := gz_ hg; have GE103 := gz_ hg; replace HB := bs_ hb; clear hb hbox hg; have hcz13_0 := cq_ BK103.out 0 (.int .i64 0); have hcz13_1 := cq_ BK103.out 1 (.int .i64 0); have hcz13_2 := cq_ BK103.out 2 (.int .i64 0); have hfz13_0 := blk_frozen BK103.out 0; have hfz13_1 := blk_frozen BK103.out 1; have hfz13_2 := blk_frozen BK103.out 2) | ((with_reducible refine gl_ 69 rfl ?_); refine goesM_ (some 18) Try.func69 #[.int .i64 ((rd_T69 l0 x9_1).f1), .int .i64 0, .int .i64 (wrap64 (x9_1 - 1))] ?_; (with_reducible refine (spec_l1In.calls ((rd_T69 l0 x9_1).f1) 0 (wrap64 (x9_1 - 1)) t104 _ A5.out).mono ?_); rintro e w' ⟨rfl, ⟨nd, rfl⟩⟩; refine ⟨_, rfl, ?_⟩) | ((with_reducible refine gl_ 69 rfl ?_); refine goesM_ (some 23) Try.func69 #[.int .i64 ((rd_T69 l0 x9_1).f2), .int .i64 0, .int .i64 (wrap64 (x9_1 - 1))] ?_; (with_reducible refine (spec_l1In.calls ((rd_T69 l0 x9_1).f2) 0 (wrap64 (x9_1 - 1)) t105 _ A6.out).mono ?_); rintro e w' ⟨rfl, ⟨nd, rfl⟩⟩; refine ⟨_, rfl, ?_⟩))
         go_ret
         exact ⟨by first | rfl | (simp [errW_none, errW_some] <;> rfl) | (simp [*, errW_none, errW_some] <;> rfl), bq_⟩
       ·rw [if_neg c8] at H
        have c8b0 : (((rd_T69 l0 x9_1).f1) == 0) = false := beq_eq_false_iff_ne.mpr c8
        have c8b1 : (((rd_T69 l0 x9_1).f1) != 0) = true := bne_iff_ne.mpr c8
        obtain rfl := Option.some.inj H
        have p102 : 0 ≤ (x9_1 : Int) := od_
        have q102 : x9_1 < (l0.length : Int) := od_
        obtain ⟨ad102, e102, hx102_0, hx102_1, hx102_2⟩ := at_T69 HR0.out x9_1 p102 q102
        cases e102
        replace hx102_0 := (HB.out.cell (World.block_lt_of_cell? w _ hx102_0)).trans hx102_0
        replace hx102_1 := (HB.out.cell (World.block_lt_of_cell? w _ hx102_1)).trans hx102_1
        replace hx102_2 := (HB.out.cell (World.block_lt_of_cell? w _ hx102_2)).trans hx102_2
        replace p102 := eq_true p102
        replace q102 := eq_true q102
        go_wp2_with (first | ((with_reducible refine gate_dst (N := 4) rfl ?_); refine boxq_ (N := 4) (cs := #[.int .i64 0, .int .i64 0, .int .i64 0]) (t := 69) ?_; intro gb103 hg w14 hbox hb; have BK103 := am_ (hbox); have GW103 := gz_ hg; have GE103 := gz_ hg; replace HB := bs_ hb; clear hb hbox hg; have hcz15_0 := cq_ BK103.out 0 (.int .i64 0); have hcz15_1 := cq_ BK103.out 1 (.int .i64 0); have hcz15_2 := cq_ BK103.out 2 (.int .i64 0); have hfz15_0 := blk_frozen BK103.out 0; have hfz15_1 := blk_frozen BK103.out 1; have hfz15_2 := blk_frozen BK103.out 2) | ((with_reducible refine gl_ 69 rfl ?_); refine goesM_ (some 18) Try.func69 #[.int .i64 ((rd_T69 l0 x9_1).f1), .int .i64 0, .int .i64 (wrap64 (x9_1 - 1))] ?_; (with_reducible refine (spec_l1In.calls ((rd_T69 l0 x9_1).f1) 0 (wrap64 (x9_1 - 1)) t104 _ A5.out).mono ?_); rintro e w' ⟨rfl, ⟨nd, rfl⟩⟩; refine ⟨_, rfl, ?_⟩) | ((with_reducible refine gl_ 69 rfl ?_); refine goesM_ (some 23) Try.func69 #[.int .i64 ((rd_T69 l0 x9_1).f2), .int .i64 0, .int .i64 (wrap64 (x9_1 - 1))] ?_; (with_reducible refine (spec_l1In.calls ((rd_T69 l0 x9_1).f2) 0 (wrap64 (x9_1 - 1)) t105 _ A6.out).mono ?_); rintro e w' ⟨rfl, ⟨nd, rfl⟩⟩; refine ⟨_, rfl, ?_⟩))
        go_ret
        exact ⟨by first | rfl | (simp [errW_none, errW_some] <;> rfl) | (simp [*, errW_none, errW_some] <;> rfl), bq_⟩
      ·rw [if_neg c7] at H
       have c7b0 : (((rd_T69 l0 x9_1).f0) == 1) = false := beq_eq_false_iff_ne.mpr c7
       have c7b1 : (((rd_T69 l0 x9_1).f0) != 1) = true := bne_iff_ne.mpr c7
       by_cases c16 : ((rd_T69 l0 x9_1).f0) = 2
       ·rw [if_pos c16] at H
        have c16b0 : (((rd_T69 l0 x9_1).f0) == 2) = true := beq_iff_eq.mpr c16
        have c16b1 : (((rd_T69 l0 x9_1).f0) != 2) = false := bne_eq_false_iff_eq.mpr c16
        clear c16
        by_cases c17 : t104 = true
        ·subst c17
         have H1 : (if ((rd_T69 l0 x9_1).f2) = 0 then (spec_GoodGates.l0 k1 l0 l0 (l0.length : Int) (wrap64 (x9_1 + 1))) else (some false)) = some r := by rw [if_pos rfl] at H; exact H
         clear H
         have H := H1
         clear H1
         by_cases c18 : ((rd_T69 l0 x9_1).f2) = 0
         ·rw [if_pos c18] at H
          have c18b0 : (((rd_T69 l0 x9_1).f2) == 0) = true := beq_iff_eq.mpr c18
          have c18b1 : (((rd_T69 l0 x9_1).f2) != 0) = false := bne_eq_false_iff_eq.mpr c18
          clear c18
          have H' := am_ H
          clear H
          have p102 : 0 ≤ (x9_1 : Int) := od_
          have q102 : x9_1 < (l0.length : Int) := od_
          obtain ⟨ad102, e102, hx102_0, hx102_1, hx102_2⟩ := at_T69 HR0.out x9_1 p102 q102
          cases e102
          replace hx102_0 := (HB.out.cell (World.block_lt_of_cell? w _ hx102_0)).trans hx102_0
          replace hx102_1 := (HB.out.cell (World.block_lt_of_cell? w _ hx102_1)).trans hx102_1
          replace hx102_2 := (HB.out.cell (World.block_lt_of_cell? w _ hx102_2)).trans hx102_2
          replace p102 := eq_true p102
          replace q102 := eq_true q102
          go_wp2_with (first | ((with_reducible refine gate_dst (N := 4) rfl ?_); refine boxq_ (N := 4) (cs := #[.int .i64 0, .int .i64 0, .int .i64 0]) (t := 69) ?_; intro gb103 hg w19 hbox hb; have BK103 := am_ (hbox); have GW103 := gz_ hg; have GE103 := gz_ hg; replace HB := bs_ hb; clear hb hbox hg; have hcz20_0 := cq_ BK103.out 0 (.int .i64 0); have hcz20_1 := cq_ BK103.out 1 (.int .i64 0); have hcz20_2 := cq_ BK103.out 2 (.int .i64 0); have hfz20_0 := blk_frozen BK103.out 0; have hfz20_1 := blk_frozen BK103.out 1; have hfz20_2 := blk_frozen BK103.out 2) | ((with_reducible refine gl_ 69 rfl ?_); refine goesM_ (some 18) Try.func69 #[.int .i64 ((rd_T69 l0 x9_1).f1), .int .i64 0, .int .i64 (wrap64 (x9_1 - 1))] ?_; (with_reducible refine (spec_l1In.calls ((rd_T69 l0 x9_1).f1) 0 (wrap64 (x9_1 - 1)) true _ A5.out).mono ?_); rintro e w' ⟨rfl, ⟨nd, rfl⟩⟩; refine ⟨_, rfl, ?_⟩) | ((with_reducible refine gl_ 69 rfl ?_); refine goesM_ (some 23) Try.func69 #[.int .i64 ((rd_T69 l0 x9_1).f2), .int .i64 0, .int .i64 (wrap64 (x9_1 - 1))] ?_; (with_reducible refine (spec_l1In.calls ((rd_T69 l0 x9_1).f2) 0 (wrap64 (x9_1 - 1)) t105 _ A6.out).mono ?_); rintro e w' ⟨rfl, ⟨nd, rfl⟩⟩; refine ⟨_, rfl, ?_⟩))
          go_roundg k1
          case measure => have := HK1.out; omega
          case rel => exact ⟨(wrap64 (x9_1 + 1)), y53_, H', ⟨by have := HK1.out; omega⟩, ⟨bq_⟩⟩
         ·rw [if_neg c18] at H
          have c18b0 : (((rd_T69 l0 x9_1).f2) == 0) = false := beq_eq_false_iff_ne.mpr c18
          have c18b1 : (((rd_T69 l0 x9_1).f2) != 0) = true := bne_iff_ne.mpr c18
          obtain rfl := Option.some.inj H
          have p102 : 0 ≤ (x9_1 : Int) := od_
          have q102 : x9_1 < (l0.length : Int) := od_
          obtain ⟨ad102, e102, hx102_0, hx102_1, hx102_2⟩ := at_T69 HR0.out x9_1 p102 q102
          cases e102
          replace hx102_0 := (HB.out.cell (World.block_lt_of_cell? w _ hx102_0)).trans hx102_0
          replace hx102_1 := (HB.out.cell (World.block_lt_of_cell? w _ hx102_1)).trans hx102_1
          replace hx102_2 := (HB.out.cell (World.block_lt_of_cell? w _ hx102_2)).trans hx102_2
          replace p102 := eq_true p102
          replace q102 := eq_true q102
          go_wp2_with (first | ((with_reducible refine gate_dst (N := 4) rfl ?_); refine boxq_ (N := 4) (cs := #[.int .i64 0, .int .i64 0, .int .i64 0]) (t := 69) ?_; intro gb103 hg w21 hbox hb; have BK103 := am_ (hbox); have GW103 := gz_ hg; have GE103 := gz_ hg; replace HB := bs_ hb; clear hb hbox hg; have hcz22_0 := cq_ BK103.out 0 (.int .i64 0); have hcz22_1 := cq_ BK103.out 1 (.int .i64 0); have hcz22_2 := cq_ BK103.out 2 (.int .i64 0); have hfz22_0 := blk_frozen BK103.out 0; have hfz22_1 := blk_frozen BK103.out 1; have hfz22_2 := blk_frozen BK103.out 2) | ((with_reducible refine gl_ 69 rfl ?_); refine goesM_ (some 18) Try.func69 #[.int .i64 ((rd_T69 l0 x9_1).f1), .int .i64 0, .int .i64 (wrap64 (x9_1 - 1))] ?_; (with_reducible refine (spec_l1In.calls ((rd_T69 l0 x9_1).f1) 0 (wrap64 (x9_1 - 1)) true _ A5.out).mono ?_); rintro e w' ⟨rfl, ⟨nd, rfl⟩⟩; refine ⟨_, rfl, ?_⟩) | ((with_reducible refine gl_ 69 rfl ?_); refine goesM_ (some 23) Try.func69 #[.int .i64 ((rd_T69 l0 x9_1).f2), .int .i64 0, .int .i64 (wrap64 (x9_1 - 1))] ?_; (with_reducible refine (spec_l1In.calls ((rd_T69 l0 x9_1).f2) 0 (wrap64 (x9_1 - 1)) t105 _ A6.out).mono ?_); rintro e w' ⟨rfl, ⟨nd, rfl⟩⟩; refine ⟨_, rfl, ?_⟩))
          go_ret
          exact ⟨by first | rfl | (simp [errW_none, errW_some] <;> rfl) | (simp [*, errW_none, errW_some] <;> rfl), bq_⟩
        ·replace c17 := Bool.eq_false_iff.mpr c17
         subst c17
         have H1 : (some false) = some r := by rw [if_neg (show ¬ (false = true) by decide)] at H; exact H
         clear H
         have H := H1
         clear H1
         obtain rfl := Option.some.inj H
         have p102 : 0 ≤ (x9_1 : Int) := od_
         have q102 : x9_1 < (l0.length : Int) := od_
         obtain ⟨ad102, e102, hx102_0, hx102_1, hx102_2⟩ := at_T69 HR0.out x9_1 p102 q102
         cases e102
         replace hx102_0 := (HB.out.cell (World.block_lt_of_cell? w _ hx102_0)).trans hx102_0
         replace hx102_1 := (HB.out.cell (World.block_lt_of_cell? w _ hx102_1)).trans hx102_1
         replace hx102_2 := (HB.out.cell (World.block_lt_of_cell? w _ hx102_2)).trans hx102_2
         replace p102 := eq_true p102
         replace q102 := eq_true q102
         go_wp2_with (first | ((with_reducible refine gate_dst (N := 4) rfl ?_); refine boxq_ (N := 4) (cs := #[.int .i64 0, .int .i64 0, .int .i64 0]) (t := 69) ?_; intro gb103 hg w23 hbox hb; have BK103 := am_ (hbox); have GW103 := gz_ hg; have GE103 := gz_ hg; replace HB := bs_ hb; clear hb hbox hg; have hcz24_0 := cq_ BK103.out 0 (.int .i64 0); have hcz24_1 := cq_ BK103.out 1 (.int .i64 0); have hcz24_2 := cq_ BK103.out 2 (.int .i64 0); have hfz24_0 := blk_frozen BK103.out 0; have hfz24_1 := blk_frozen BK103.out 1; have hfz24_2 := blk_frozen BK103.out 2) | ((with_reducible refine gl_ 69 rfl ?_); refine goesM_ (some 18) Try.func69 #[.int .i64 ((rd_T69 l0 x9_1).f1), .int .i64 0, .int .i64 (wrap64 (x9_1 - 1))] ?_; (with_reducible refine (spec_l1In.calls ((rd_T69 l0 x9_1).f1) 0 (wrap64 (x9_1 - 1)) false _ A5.out).mono ?_); rintro e w' ⟨rfl, ⟨nd, rfl⟩⟩; refine ⟨_, rfl, ?_⟩) | ((with_reducible refine gl_ 69 rfl ?_); refine goesM_ (some 23) Try.func69 #[.int .i64 ((rd_T69 l0 x9_1).f2), .int .i64 0, .int .i64 (wrap64 (x9_1 - 1))] ?_; (with_reducible refine (spec_l1In.calls ((rd_T69 l0 x9_1).f2) 0 (wrap64 (x9_1 - 1)) t105 _ A6.out).mono ?_); rintro e w' ⟨rfl, ⟨nd, rfl⟩⟩; refine ⟨_, rfl, ?_⟩))
         go_ret
         exact ⟨by first | rfl | (simp [errW_none, errW_some] <;> rfl) | (simp [*, errW_none, errW_some] <;> rfl), bq_⟩
       ·rw [if_neg c16] at H
        have c16b0 : (((rd_T69 l0 x9_1).f0) == 2) = false := beq_eq_false_iff_ne.mpr c16
        have c16b1 : (((rd_T69 l0 x9_1).f0) != 2) = true := bne_iff_ne.mpr c16
        have HC25 := am_ H
        clear H
        have p102 : 0 ≤ (x9_1 : Int) := od_
        have q102 : x9_1 < (l0.length : Int) := od_
        obtain ⟨ad102, e102, hx102_0, hx102_1, hx102_2⟩ := at_T69 HR0.out x9_1 p102 q102
        cases e102
        replace hx102_0 := (HB.out.cell (World.block_lt_of_cell? w _ hx102_0)).trans hx102_0
        replace hx102_1 := (HB.out.cell (World.block_lt_of_cell? w _ hx102_1)).trans hx102_1
        replace hx102_2 := (HB.out.cell (World.block_lt_of_cell? w _ hx102_2)).trans hx102_2
        replace p102 := eq_true p102
        replace q102 := eq_true q102
        go_upto_if 45 with (first | ((with_reducible refine gate_dst (N := 4) rfl ?_); refine boxq_ (N := 4) (cs := #[.int .i64 0, .int .i64 0, .int .i64 0]) (t := 69) ?_; intro gb103 hg w26 hbox hb; have BK103 := am_ (hbox); have GW103 := gz_ hg; have GE103 := gz_ hg; replace HB := bs_ hb; clear hb hbox hg; have hcz27_0 := cq_ BK103.out 0 (.int .i64 0); have hcz27_1 := cq_ BK103.out 1 (.int .i64 0); have hcz27_2 := cq_ BK103.out 2 (.int .i64 0); have hfz27_0 := blk_frozen BK103.out 0; have hfz27_1 := blk_frozen BK103.out 1; have hfz27_2 := blk_frozen BK103.out 2) | ((with_reducible refine gl_ 69 rfl ?_); refine goesM_ (some 18) Try.func69 #[.int .i64 ((rd_T69 l0 x9_1).f1), .int .i64 0, .int .i64 (wrap64 (x9_1 - 1))] ?_; (with_reducible refine (spec_l1In.calls ((rd_T69 l0 x9_1).f1) 0 (wrap64 (x9_1 - 1)) t104 _ A5.out).mono ?_); rintro e w' ⟨rfl, ⟨nd, rfl⟩⟩; refine ⟨_, rfl, ?_⟩) | ((with_reducible refine gl_ 69 rfl ?_); refine goesM_ (some 23) Try.func69 #[.int .i64 ((rd_T69 l0 x9_1).f2), .int .i64 0, .int .i64 (wrap64 (x9_1 - 1))] ?_; (with_reducible refine (spec_l1In.calls ((rd_T69 l0 x9_1).f2) 0 (wrap64 (x9_1 - 1)) t105 _ A6.out).mono ?_); rintro e w' ⟨rfl, ⟨nd, rfl⟩⟩; refine ⟨_, rfl, ?_⟩))
        (try simp only [Act.put, List.setIfInBounds_toArray, List.set_cons_zero, List.set_cons_succ])
        go_cut [45] (fun v45 wc => ∃ (kq : Nat) (x45_24 : Bool), v45 = .bool x45_24 ∧ Aside0 (spec_GoodGates.j1 kq l0 t104 t105 l0 (l0.length : Int) x9_1 x45_24 = some r) ∧ Aside0 (kq ≤ k1) ∧ Aside0 (wc.heap[gb103]? = some (.cells #[.int .i64 ((rd_T69 l0 x9_1).f0), .int .i64 ((rd_T69 l0 x9_1).f1), .int .i64 ((rd_T69 l0 x9_1).f2)] 69 (0, 0))) ∧ Aside0 (Below w.heap.size w wc))
        case first =>
         have H := HC25.out
         clear HC25
         by_cases c28 : ((rd_T69 l0 x9_1).f0) = 3
         ·rw [if_pos c28] at H
          have c28b0 : (((rd_T69 l0 x9_1).f0) == 3) = true := beq_iff_eq.mpr c28
          have c28b1 : (((rd_T69 l0 x9_1).f0) != 3) = false := bne_eq_false_iff_eq.mpr c28
          clear c28
          (first | rw [c28b0] | (simp only [i64_w, i32_w]; rw [c28b0]) | skip)
          have H' := am_ H
          clear H
          go_wp2
          go_meet
          case rel => exact ⟨_, ((((rd_T69 l0 x9_1).f0) == 3)), y53_, H', ⟨by have := HK1.out; first | omega | exact Nat.le_refl _⟩, ⟨by (with_reducible repeat (first | refine blk_drewN ?_ _ | refine blk_drew ?_ | refine blk_alloc ?_ _)); refine blk_put (cs := #[.int .i64 ((rd_T69 l0 x9_1).f0), .int .i64 ((rd_T69 l0 x9_1).f1), .int .i64 0]) ?_ 2 _ rfl; (with_reducible repeat (first | refine blk_drewN ?_ _ | refine blk_drew ?_ | refine blk_alloc ?_ _)); refine blk_put (cs := #[.int .i64 ((rd_T69 l0 x9_1).f0), .int .i64 0, .int .i64 0]) ?_ 1 _ rfl; (with_reducible repeat (first | refine blk_drewN ?_ _ | refine blk_drew ?_ | refine blk_alloc ?_ _)); refine blk_put (cs := #[.int .i64 0, .int .i64 0, .int .i64 0]) ?_ 0 _ rfl; (with_reducible repeat (first | refine blk_drewN ?_ _ | refine blk_drew ?_ | refine blk_alloc ?_ _)); exact BK103.out⟩, ⟨bq_⟩⟩
         ·rw [if_neg c28] at H
          have c28b0 : (((rd_T69 l0 x9_1).f0) == 3) = false := beq_eq_false_iff_ne.mpr c28
          have c28b1 : (((rd_T69 l0 x9_1).f0) != 3) = true := bne_iff_ne.mpr c28
          (first | rw [c28b0] | (simp only [i64_w, i32_w]; rw [c28b0]) | skip)
          by_cases c29 : ((rd_T69 l0 x9_1).f0) = 4
          ·rw [if_pos c29] at H
           have c29b0 : (((rd_T69 l0 x9_1).f0) == 4) = true := beq_iff_eq.mpr c29
           have c29b1 : (((rd_T69 l0 x9_1).f0) != 4) = false := bne_eq_false_iff_eq.mpr c29
           clear c29
           have H' := am_ H
           clear H
           go_wp2
           go_meet
           case rel => exact ⟨_, ((((rd_T69 l0 x9_1).f0) == 4)), y53_, H', ⟨by have := HK1.out; first | omega | exact Nat.le_refl _⟩, ⟨by (with_reducible repeat (first | refine blk_drewN ?_ _ | refine blk_drew ?_ | refine blk_alloc ?_ _)); refine blk_put (cs := #[.int .i64 ((rd_T69 l0 x9_1).f0), .int .i64 ((rd_T69 l0 x9_1).f1), .int .i64 0]) ?_ 2 _ rfl; (with_reducible repeat (first | refine blk_drewN ?_ _ | refine blk_drew ?_ | refine blk_alloc ?_ _)); refine blk_put (cs := #[.int .i64 ((rd_T69 l0 x9_1).f0), .int .i64 0, .int .i64 0]) ?_ 1 _ rfl; (with_reducible repeat (first | refine blk_drewN ?_ _ | refine blk_drew ?_ | refine blk_alloc ?_ _)); refine blk_put (cs := #[.int .i64 0, .int .i64 0, .int .i64 0]) ?_ 0 _ rfl; (with_reducible repeat (first | refine blk_drewN ?_ _ | refine blk_drew ?_ | refine blk_alloc ?_ _)); exact BK103.out⟩, ⟨bq_⟩⟩
          ·rw [if_neg c29] at H
           have c29b0 : (((rd_T69 l0 x9_1).f0) == 4) = false := beq_eq_false_iff_ne.mpr c29
           have c29b1 : (((rd_T69 l0 x9_1).f0) != 4) = true := bne_iff_ne.mpr c29
           have H' := am_ H
           clear H
           go_wp2
           go_meet
           case rel => exact ⟨_, ((((rd_T69 l0 x9_1).f0) == 5)), y53_, H', ⟨by have := HK1.out; first | omega | exact Nat.le_refl _⟩, ⟨by (with_reducible repeat (first | refine blk_drewN ?_ _ | refine blk_drew ?_ | refine blk_alloc ?_ _)); refine blk_put (cs := #[.int .i64 ((rd_T69 l0 x9_1).f0), .int .i64 ((rd_T69 l0 x9_1).f1), .int .i64 0]) ?_ 2 _ rfl; (with_reducible repeat (first | refine blk_drewN ?_ _ | refine blk_drew ?_ | refine blk_alloc ?_ _)); refine blk_put (cs := #[.int .i64 ((rd_T69 l0 x9_1).f0), .int .i64 0, .int .i64 0]) ?_ 1 _ rfl; (with_reducible repeat (first | refine blk_drewN ?_ _ | refine blk_drew ?_ | refine blk_alloc ?_ _)); refine blk_put (cs := #[.int .i64 0, .int .i64 0, .int .i64 0]) ?_ 0 _ rfl; (with_reducible repeat (first | refine blk_drewN ?_ _ | refine blk_drew ?_ | refine blk_alloc ?_ _)); exact BK103.out⟩, ⟨bq_⟩⟩
        case rest =>
         clear HC25
         try clear c1
         try clear p1
         try clear q1
         try clear hx1
         try clear c2
         try clear c2b0
         try clear p2
         try clear c3
         try clear c3b0
         try clear c4
         try clear c4b0
         try clear c6
         try clear p6
         try clear c7
         try clear c7b0
         try clear c7b1
         try clear c8
         try clear c8b0
         try clear c8b1
         try clear c9
         try clear c9b0
         try clear c9b1
         try clear p10
         try clear q10
         try clear hx10
         try clear c16
         try clear c16b0
         try clear c16b1
         try clear c17
         try clear c18
         try clear c18b0
         try clear c18b1
         try clear c28
         try clear c28b0
         try clear c28b1
         try clear c29
         try clear c29b0
         try clear c29b1
         try clear hcz11_0
         try clear hcz11_1
         try clear hcz11_2
         try clear hcz13_0
         try clear hcz13_1
         try clear hcz13_2
         try clear hcz15_0
         try clear hcz15_1
         try clear hcz15_2
         try clear hcz20_0
         try clear hcz20_1
         try clear hcz20_2
         try clear hcz22_0
         try clear hcz22_1
         try clear hcz22_2
         try clear hcz24_0
         try clear hcz24_1
         try clear hcz24_2
         try clear hcz27_0
         try clear hcz27_1
         try clear hcz27_2
         try clear hfz11_0
         try clear hfz11_1
         try clear hfz11_2
         try clear hfz13_0
         try clear hfz13_1
         try clear hfz13_2
         try clear hfz15_0
         try clear hfz15_1
         try clear hfz15_2
         try clear hfz20_0
         try clear hfz20_1
         try clear hfz20_2
         try clear hfz22_0
         try clear hfz22_1
         try clear hfz22_2
         try clear hfz24_0
         try clear hfz24_1
         try clear hfz24_2
         try clear hfz27_0
         try clear hfz27_1
         try clear hfz27_2
         try clear hx102_0
         try clear hx102_1
         try clear hx102_2
         try clear p102
         try clear q102
         obtain ⟨kq, x45_24, rfl, HA, HJ24, BK103, HB⟩ := hcut
         cases kq with
         | zero => exact absurd HA.out (by simp [spec_GoodGates.j1])
         | succ kj24 =>
          have H := HA.out
          clear HA
          simp only [spec_GoodGates.j1] at H
          by_cases c30 : x45_24 = true
          ·subst c30
           have H1 : (if t104 = true then (if t105 = true then (spec_GoodGates.l0 kj24 l0 l0 (l0.length : Int) (wrap64 (x9_1 + 1))) else (some false)) else (some false)) = some r := by rw [if_pos rfl] at H; exact H
           clear H
           have H := H1
           clear H1
           by_cases c31 : t104 = true
           ·subst c31
            have H1 : (if t105 = true then (spec_GoodGates.l0 kj24 l0 l0 (l0.length : Int) (wrap64 (x9_1 + 1))) else (some false)) = some r := by rw [if_pos rfl] at H; exact H
            clear H
            have H := H1
            clear H1
            by_cases c32 : t105 = true
            ·subst c32
             have H1 : (spec_GoodGates.l0 kj24 l0 l0 (l0.length : Int) (wrap64 (x9_1 + 1))) = some r := by rw [if_pos rfl] at H; exact H
             clear H
             have H := H1
             clear H1
             have H' := am_ H
             clear H
             go_wp2
             go_roundg kj24
             case measure => have := HK1.out; have := HJ24.out; omega
             case rel => exact ⟨(wrap64 (x9_1 + 1)), y53_, H', ⟨by have := HK1.out; have := HJ24.out; omega⟩, ⟨bq_⟩⟩
            ·replace c32 := Bool.eq_false_iff.mpr c32
             subst c32
             have H1 : (some false) = some r := by rw [if_neg (show ¬ (false = true) by decide)] at H; exact H
             clear H
             have H := H1
             clear H1
             obtain rfl := Option.some.inj H
             go_wp2
             go_ret
             exact ⟨by first | rfl | (simp [errW_none, errW_some] <;> rfl) | (simp [*, errW_none, errW_some] <;> rfl), bq_⟩
           ·replace c31 := Bool.eq_false_iff.mpr c31
            subst c31
            have H1 : (some false) = some r := by rw [if_neg (show ¬ (false = true) by decide)] at H; exact H
            clear H
            have H := H1
            clear H1
            obtain rfl := Option.some.inj H
            go_wp2
            go_ret
            exact ⟨by first | rfl | (simp [errW_none, errW_some] <;> rfl) | (simp [*, errW_none, errW_some] <;> rfl), bq_⟩
          ·replace c30 := Bool.eq_false_iff.mpr c30
           subst c30
           have H1 : (some false) = some r := by rw [if_neg (show ¬ (false = true) by decide)] at H; exact H
           clear H
           have H := H1
           clear H1
           obtain rfl := Option.some.inj H
           go_wp2
           go_ret
           exact ⟨by first | rfl | (simp [errW_none, errW_some] <;> rfl) | (simp [*, errW_none, errW_some] <;> rfl), bq_⟩
     ·rw [if_neg c4] at H
      exact absurd H (by simp)
    ·rw [if_neg c3] at H
     exact absurd H (by simp)
   ·rw [if_neg c2] at H
    have c2b0 : decide (x9_1 < (l0.length : Int)) = false := decide_eq_false c2
    clear c2
    replace H := Option.bind_eq_some_iff.mp H
    obtain ⟨t101, A330, H⟩ := H
    replace H : (some t101) = some r := H
    have A33 := am_ A330
    clear A330
    obtain rfl := Option.some.inj H
    go_wp2_with (first | ((with_reducible refine gl_ 69 rfl ?_); refine goesM_ (some 58) Try.func69 #[.int .i64 (l0.length : Int), .int .i64 1, .int .i64 12] ?_; (with_reducible refine (spec_l1In.calls (l0.length : Int) 1 12 t101 _ A33.out).mono ?_); rintro e w' ⟨rfl, ⟨nd, rfl⟩⟩; refine ⟨_, rfl, ?_⟩))
    go_ret
    exact ⟨by first | rfl | (simp [errW_none, errW_some] <;> rfl) | (simp [*, errW_none, errW_some] <;> rfl), bq_⟩
def spec_l8Raw.f (a0_0 : Int) (a0_1 : Int) (a0_2 : Int) (a1 : Int) : Option ((List (List Int))) := if a0_0 = 2 then (some (([(([a1, wrap64 (a0_1 + 1)] : List Int)), (([wrap64 (-a1), wrap64 (-(wrap64 (a0_1 + 1)))] : List Int))] : List (List Int)))) else (if a0_0 = 3 then (some (([(([wrap64 (-a1), wrap64 (a0_1 + 1)] : List Int)), (([wrap64 (-a1), wrap64 (a0_2 + 1)] : List Int)), (([a1, wrap64 (-(wrap64 (a0_1 + 1))), wrap64 (-(wrap64 (a0_2 + 1)))] : List Int))] : List (List Int)))) else (if a0_0 = 4 then (some (([(([a1, wrap64 (-(wrap64 (a0_1 + 1)))] : List Int)), (([a1, wrap64 (-(wrap64 (a0_2 + 1)))] : List Int)), (([wrap64 (-a1), wrap64 (a0_1 + 1), wrap64 (a0_2 + 1)] : List Int))] : List (List Int)))) else (if a0_0 = 5 then (some (([(([wrap64 (-a1), wrap64 (a0_1 + 1), wrap64 (a0_2 + 1)] : List Int)), (([wrap64 (-a1), wrap64 (-(wrap64 (a0_1 + 1))), wrap64 (-(wrap64 (a0_2 + 1)))] : List Int)), (([a1, wrap64 (-(wrap64 (a0_1 + 1))), wrap64 (a0_2 + 1)] : List Int)), (([a1, wrap64 (a0_1 + 1), wrap64 (-(wrap64 (a0_2 + 1)))] : List Int))] : List (List Int)))) else (some ([] : List (List Int))))))
set_option maxHeartbeats 8000000 in
set_option maxRecDepth 100000 in
theorem spec_l8Raw.calls (a0_0 : Int) (a0_1 : Int) (a0_2 : Int) (a1 : Int) (r : List (List Int)) (w : World) (h : spec_l8Raw.f a0_0 a0_1 a0_2 a1 = some r) :
  Calls Try.prog 70 #[.agg #[.int .i64 a0_0, .int .i64 a0_1, .int .i64 a0_2], .int .i64 a1] w fun e w' => ∃ v0_ : Value, e = .returned (v0_) ∧ Kd.N (Kd.slice 3 (Kd.int .i64)) 43 w' w.heap.size (fun k_ => (w.heap.size ≤ k_)) v0_ r ∧ Below w.heap.size w w' := by
 have hu69 := Try.underlying69
 have HB := am_ (Below.refl w.heap.size w)
 have H : (if a0_0 = 2 then (some (([(([a1, wrap64 (a0_1 + 1)] : List Int)), (([wrap64 (-a1), wrap64 (-(wrap64 (a0_1 + 1)))] : List Int))] : List (List Int)))) else (if a0_0 = 3 then (some (([(([wrap64 (-a1), wrap64 (a0_1 + 1)] : List Int)), (([wrap64 (-a1), wrap64 (a0_2 + 1)] : List Int)), (([a1, wrap64 (-(wrap64 (a0_1 + 1))), wrap64 (-(wrap64 (a0_2 + 1)))] : List Int))] : List (List Int)))) else (if a0_0 = 4 then (some (([(([a1, wrap64 (-(wrap64 (a0_1 + 1)))] : List Int)), (([a1, wrap64 (-(wrap64 (a0_2 + 1)))] : List Int)), (([wrap64 (-a1), wrap64 (a0_1 + 1), wrap64 (a0_2 + 1)] : List Int))] : List (List Int)))) else (if a0_0 = 5 then (some (([(([wrap64 (-a1), wrap64 (a0_1 + 1), wrap64 (a0_2 + 1)] : List Int)), (([wrap64 (-a1), wrap64 (-(wrap64 (a0_1 + 1))), wrap64 (-(wrap64 (a0_2 + 1)))] : List Int)), (([a1, wrap64 (-(wrap64 (a0_1 + 1))), wrap64 (a0_2 + 1)] : List Int)), (([a1, wrap64 (a0_1 + 1), wrap64 (-(wrap64 (a0_2 + 1)))] : List Int))] : List (List Int)))) else (some ([] : List (List Int))))))) = some r := h
 clear h
 by_cases c3 : a0_0 = 2
 ·rw [if_pos c3] at H
  have c3b0 : (a0_0 == 2) = true := beq_iff_eq.mpr c3
  have c3b1 : (a0_0 != 2) = false := bne_eq_false_iff_eq.mpr c3
  clear c3
  obtain ⟨y107, hy107⟩ : ∃ y_ : List Int, y_ = (([a1, wrap64 (a0_1 + 1)] : List Int)) := ⟨_, rfl⟩
  replace H : (some (([y107, (([wrap64 (-a1), wrap64 (-(wrap64 (a0_1 + 1)))] : List Int))] : List (List Int)))) = some r := by first | (rw [hy107]; with_reducible exact H) | (have H2_ := (Option.bind_some _ _).symm.trans H; rw [hy107]; with_reducible exact H2_) | (have H2_ := (Option.bind_some _ _).symm.trans H; with_reducible exact H2_) | with_reducible exact H | (rw [hy107]; exact H) | exact H
  have Ny107 := am_ hy107
  clear hy107
  obtain ⟨y110, hy110⟩ : ∃ y_ : List Int, y_ = (([wrap64 (-a1), wrap64 (-(wrap64 (a0_1 + 1)))] : List Int)) := ⟨_, rfl⟩
  replace H : (some (([y107, y110] : List (List Int)))) = some r := by first | (rw [hy110]; with_reducible exact H) | (have H2_ := (Option.bind_some _ _).symm.trans H; rw [hy110]; with_reducible exact H2_) | (have H2_ := (Option.bind_some _ _).symm.trans H; with_reducible exact H2_) | with_reducible exact H | (rw [hy110]; exact H) | exact H
  have Ny110 := am_ hy110
  clear hy110
  obtain ⟨y113, hy113⟩ : ∃ y_ : List (List Int), y_ = (([y107, y110] : List (List Int))) := ⟨_, rfl⟩
  replace H : (some y113) = some r := by first | (rw [hy113]; with_reducible exact H) | (have H2_ := (Option.bind_some _ _).symm.trans H; rw [hy113]; with_reducible exact H2_) | (have H2_ := (Option.bind_some _ _).symm.trans H; with_reducible exact H2_) | with_reducible exact H | (rw [hy113]; exact H) | exact H
  have Ny113 := am_ hy113
  clear hy113
  obtain rfl := Option.some.inj H
  go_enter Try.func70, Try.ntmps70
  go_wp2_with (first | ((with_reducible refine gate_dst (N := 2) rfl ?_); refine boxq_ (N := 2) (cs := #[.int .i64 a0_0, .int .i64 a0_1, .int .i64 a0_2]) (t := 69) ?_; intro gb106 hg w4 hbox hb; have BK106 := am_ (hbox); have GW106 := gz_ hg; have GE106 := gz_ hg; replace HB := bs_ hb; clear hb hbox hg; have hcz5_0 := cq_ BK106.out 0 (.int .i64 a0_0); have hcz5_1 := cq_ BK106.out 1 (.int .i64 a0_1); have hcz5_2 := cq_ BK106.out 2 (.int .i64 a0_2); have hfz5_0 := blk_frozen BK106.out 0; have hfz5_1 := blk_frozen BK106.out 1; have hfz5_2 := blk_frozen BK106.out 2) | ((with_reducible refine gate_dst (N := 19) rfl ?_); refine Kd.R_lit (Kd.int .i64) _ 3 ?hg (N := 19) ?hd (xs := ([a1, wrap64 (a0_1 + 1)] : List Int)) (inner := [.int .i64 a1, .int .i64 (wrap64 (a0_1 + 1))]) (ok := fun _ => True) (okp := fun _ => True) ?hr ?hp (fun _ hk => hk) trivial (Below.refl _ _) (Nat.le_refl _) (by simp) ?_; (case hd => rfl); (case hg => rfl); (case hr => first | (go_simp; done) | (go_simp; rfl)); (case hp => exact (Reps.one (show Kd.M (Kd.int .i64) _ _ _ a1 [.int .i64 a1] from rfl) (Reps.one (show Kd.M (Kd.int .i64) _ _ _ (wrap64 (a0_1 + 1)) [.int .i64 (wrap64 (a0_1 + 1))] from rfl) (Reps.none _ _)))); intro v108 w6 ho7 hb hg_ hnew_; clear hg_ hnew_; (first | rw [← Ny107.out] at ho7 | (simp only [Int.reduceToNat] at ho7; rw [← Ny107.out] at ho7)); have HO109 := am_ (Kd.R_lower (Kd.R_newM (M := fun k_ => (w.heap.size ≤ k_)) ho7 (below_size (bq_)) (fun k_ h_ => h_)) (below_size (bq_))); replace BK106 := bb_ BK106 hb; replace HB := bs_ hb; clear hb ho7) | ((with_reducible refine gate_dst (N := 24) rfl ?_); refine Kd.R_lit (Kd.int .i64) _ 3 ?hg (N := 24) ?hd (xs := ([wrap64 (-a1), wrap64 (-(wrap64 (a0_1 + 1)))] : List Int)) (inner := [.int .i64 (wrap64 (-a1)), .int .i64 (wrap64 (-(wrap64 (a0_1 + 1))))]) (ok := fun _ => True) (okp := fun _ => True) ?hr ?hp (fun _ hk => hk) trivial (Below.refl _ _) (Nat.le_refl _) (by simp) ?_; (case hd => rfl); (case hg => rfl); (case hr => first | (go_simp; done) | (go_simp; rfl)); (case hp => exact (Reps.one (show Kd.M (Kd.int .i64) _ _ _ (wrap64 (-a1)) [.int .i64 (wrap64 (-a1))] from rfl) (Reps.one (show Kd.M (Kd.int .i64) _ _ _ (wrap64 (-(wrap64 (a0_1 + 1)))) [.int .i64 (wrap64 (-(wrap64 (a0_1 + 1))))] from rfl) (Reps.none _ _)))); intro v111 w8 ho9 hb hg_ hnew_; clear hg_ hnew_; (first | rw [← Ny110.out] at ho9 | (simp only [Int.reduceToNat] at ho9; rw [← Ny110.out] at ho9)); have HO112 := am_ (Kd.R_lower (Kd.R_new' (Kd.R_newM (M := fun k_ => (w.heap.size ≤ k_)) ho9 (below_size (bq_)) (fun k_ h_ => h_)) (Kd.R_lt (rq_ HO109.out))) (below_size (bq_))); replace HO109 := am_ (Kd.R_elder' (rq_ HO109.out) (Kd.R_base ho9) hb); replace BK106 := bb_ BK106 hb; replace HB := bs_ hb; clear hb ho9; obtain ⟨Ao10, co10, eo10⟩ := Kd.R_slice HO109.out; subst eo10; obtain ⟨Ao11, co11, eo11⟩ := Kd.R_slice HO112.out; subst eo11) | ((with_reducible refine gate_dst (N := 25) rfl ?_); refine Kd.N_lit (Kd.slice 3 (Kd.int .i64)) _ 43 ?hg (N' := 25) ?hd (xs := ([y107, y110] : List (List Int))) (inner := [.slice Ao10 y107.length co10, .slice Ao11 y110.length co11]) (ok := (fun k_ => (w.heap.size ≤ k_) ∧ k_ ≠ gb106)) (okp := (fun k_ => (w.heap.size ≤ k_) ∧ k_ ≠ gb106)) ?hr ?hp (fun _ hk => hk) ((show ∀ k_, w8.heap.size ≤ k_ → (fun k_ => (w.heap.size ≤ k_) ∧ k_ ≠ gb106) k_ from fun k_ hk => ⟨(Nat.le_trans (below_size (bq_)) hk), Kd.freshB (g := gb106) (o := .cells #[.int .i64 a0_0, .int .i64 a0_1, .int .i64 a0_2] 69 (0, 0)) (bk_ BK106.out) k_ hk⟩) _ (Nat.le_refl _)) (Below.refl _ _) (Nat.le_refl _) (by simp) ?_; (case hd => rfl); (case hg => rfl); (case hr => first | (go_simp; done) | (go_simp; rfl)); (case hp => exact (Reps.one (show Kd.FK (Kd.slice 3 (Kd.int .i64)) _ _ y107 [.slice Ao10 y107.length co10] from (Kd.FK_slice_mk (Kd.R_reads' (Kd.R_mono (ok' := (fun k_ => (w.heap.size ≤ k_) ∧ k_ ≠ gb106)) (Kd.R_types (HO109.out) BK106.out (by decide)) (fun k_ hk => ⟨hk.1.1.1, hk.2⟩))).2.1 (Kd.R_F (Kd.R_mono (ok' := (fun k_ => (w.heap.size ≤ k_) ∧ k_ ≠ gb106)) (Kd.R_types (HO109.out) BK106.out (by decide)) (fun k_ hk => ⟨hk.1.1.1, hk.2⟩))))) (Reps.one (show Kd.FK (Kd.slice 3 (Kd.int .i64)) _ _ y110 [.slice Ao11 y110.length co11] from (Kd.FK_slice_mk (Kd.R_reads' (Kd.R_mono (ok' := (fun k_ => (w.heap.size ≤ k_) ∧ k_ ≠ gb106)) (Kd.R_types (HO112.out) BK106.out (by decide)) (fun k_ hk => ⟨hk.1.1.1, hk.2⟩))).2.1 (Kd.R_F (Kd.R_mono (ok' := (fun k_ => (w.heap.size ≤ k_) ∧ k_ ≠ gb106)) (Kd.R_types (HO112.out) BK106.out (by decide)) (fun k_ hk => ⟨hk.1.1.1, hk.2⟩))))) (Reps.none _ _)))); intro v114 w12 ho13 hb hg_ hnew_; clear hg_ hnew_; (first | rw [← Ny113.out] at ho13 | (simp only [Int.reduceToNat] at ho13; rw [← Ny113.out] at ho13)); have HO115 := am_ (Kd.N_lower ho13 (below_size (bq_))); replace BK106 := bb_ BK106 hb; replace HB := bs_ hb; clear HO109 HO112; clear hb ho13))
  go_ret
  exact ⟨_, by first | rfl | (simp [errW_none, errW_some] <;> rfl) | (simp [*, errW_none, errW_some] <;> rfl), by (with_reducible repeat (first | apply Kd.N_alloc | apply Kd.N_drewN | apply Kd.N_drew)); exact Kd.N_mono HO115.out (fun _ hk => hk.1), bq_⟩
 ·rw [if_neg c3] at H
  have c3b0 : (a0_0 == 2) = false := beq_eq_false_iff_ne.mpr c3
  have c3b1 : (a0_0 != 2) = true := bne_iff_ne.mpr c3
  by_cases c14 : a0_0 = 3
  ·rw [if_pos c14] at H
   have c14b0 : (a0_0 == 3) = true := beq_iff_eq.mpr c14
   have c14b1 : (a0_0 != 3) = false := bne_eq_false_iff_eq.mpr c14
   clear c14
   obtain ⟨y116, hy116⟩ : ∃ y_ : List Int, y_ = (([wrap64 (-a1), wrap64 (a0_1 + 1)] : List Int)) := ⟨_, rfl⟩
   replace H : (some (([y116, (([wrap64 (-a1), wrap64 (a0_2 + 1)] : List Int)), (([a1, wrap64 (-(wrap64 (a0_1 + 1))), wrap64 (-(wrap64 (a0_2 + 1)))] : List Int))] : List (List Int)))) = some r := by first | (rw [hy116]; with_reducible exact H) | (have H2_ := (Option.bind_some _ _).symm.trans H; rw [hy116]; with_reducible exact H2_) | (have H2_ := (Option.bind_some _ _).symm.trans H; with_reducible exact H2_) | with_reducible exact H | (rw [hy116]; exact H) | exact H
   have Ny116 := am_ hy116
   clear hy116
   obtain ⟨y119, hy119⟩ : ∃ y_ : List Int, y_ = (([wrap64 (-a1), wrap64 (a0_2 + 1)] : List Int)) := ⟨_, rfl⟩
   replace H : (some (([y116, y119, (([a1, wrap64 (-(wrap64 (a0_1 + 1))), wrap64 (-(wrap64 (a0_2 + 1)))] : List Int))] : List (List Int)))) = some r := by first | (rw [hy119]; with_reducible exact H) | (have H2_ := (Option.bind_some _ _).symm.trans H; rw [hy119]; with_reducible exact H2_) | (have H2_ := (Option.bind_some _ _).symm.trans H; with_reducible exact H2_) | with_reducible exact H | (rw [hy119]; exact H) | exact H
   have Ny119 := am_ hy119
   clear hy119
   obtain ⟨y122, hy122⟩ : ∃ y_ : List Int, y_ = (([a1, wrap64 (-(wrap64 (a0_1 + 1))), wrap64 (-(wrap64 (a0_2 + 1)))] : List Int)) := ⟨_, rfl⟩
   replace H : (some (([y116, y119, y122] : List (List Int)))) = some r := by first | (rw [hy122]; with_reducible exact H) | (have H2_ := (Option.bind_some _ _).symm.trans H; rw [hy122]; with_reducible exact H2_) | (have H2_ := (Option.bind_some _ _).symm.trans H; with_reducible exact H2_) | with_reducible exact H | (rw [hy122]; exact H) | exact H
   have Ny122 := am_ hy122
   clear hy122
   obtain ⟨y125, hy125⟩ : ∃ y_ : List (List Int), y_ = (([y116, y119, y122] : List (List Int))) := ⟨_, rfl⟩
   replace H : (some y125) = some r := by first | (rw [hy125]; with_reducible exact H) | (have H2_ := (Option.bind_some _ _).symm.trans H; rw [hy125]; with_reducible exact H2_) | (have H2_ := (Option.bind_some _ _).symm.trans H; with_reducible exact H2_) | with_reducible exact H | (rw [hy125]; exact H) | exact H
   have Ny125 := am_ hy125
   clear hy125
   obtain rfl := Option.some.inj H
   go_enter Try.func70, Try.ntmps70
   go_wp2_with (first | ((with_reducible refine gate_dst (N := 2) rfl ?_); refine boxq_ (N := 2) (cs := #[.int .i64 a0_0, .int .i64 a0_1, .int .i64 a0_2]) (t := 69) ?_; intro gb106 hg w15 hbox hb; have BK106 := am_ (hbox); have GW106 := gz_ hg; have GE106 := gz_ hg; replace HB := bs_ hb; clear hb hbox hg; have hcz16_0 := cq_ BK106.out 0 (.int .i64 a0_0); have hcz16_1 := cq_ BK106.out 1 (.int .i64 a0_1); have hcz16_2 := cq_ BK106.out 2 (.int .i64 a0_2); have hfz16_0 := blk_frozen BK106.out 0; have hfz16_1 := blk_frozen BK106.out 1; have hfz16_2 := blk_frozen BK106.out 2) | ((with_reducible refine gate_dst (N := 31) rfl ?_); refine Kd.R_lit (Kd.int .i64) _ 3 ?hg (N := 31) ?hd (xs := ([wrap64 (-a1), wrap64 (a0_1 + 1)] : List Int)) (inner := [.int .i64 (wrap64 (-a1)), .int .i64 (wrap64 (a0_1 + 1))]) (ok := fun _ => True) (okp := fun _ => True) ?hr ?hp (fun _ hk => hk) trivial (Below.refl _ _) (Nat.le_refl _) (by simp) ?_; (case hd => rfl); (case hg => rfl); (case hr => first | (go_simp; done) | (go_simp; rfl)); (case hp => exact (Reps.one (show Kd.M (Kd.int .i64) _ _ _ (wrap64 (-a1)) [.int .i64 (wrap64 (-a1))] from rfl) (Reps.one (show Kd.M (Kd.int .i64) _ _ _ (wrap64 (a0_1 + 1)) [.int .i64 (wrap64 (a0_1 + 1))] from rfl) (Reps.none _ _)))); intro v117 w17 ho18 hb hg_ hnew_; clear hg_ hnew_; (first | rw [← Ny116.out] at ho18 | (simp only [Int.reduceToNat] at ho18; rw [← Ny116.out] at ho18)); have HO118 := am_ (Kd.R_lower (Kd.R_newM (M := fun k_ => (w.heap.size ≤ k_)) ho18 (below_size (bq_)) (fun k_ h_ => h_)) (below_size (bq_))); replace BK106 := bb_ BK106 hb; replace HB := bs_ hb; clear hb ho18) | ((with_reducible refine gate_dst (N := 35) rfl ?_); refine Kd.R_lit (Kd.int .i64) _ 3 ?hg (N := 35) ?hd (xs := ([wrap64 (-a1), wrap64 (a0_2 + 1)] : List Int)) (inner := [.int .i64 (wrap64 (-a1)), .int .i64 (wrap64 (a0_2 + 1))]) (ok := fun _ => True) (okp := fun _ => True) ?hr ?hp (fun _ hk => hk) trivial (Below.refl _ _) (Nat.le_refl _) (by simp) ?_; (case hd => rfl); (case hg => rfl); (case hr => first | (go_simp; done) | (go_simp; rfl)); (case hp => exact (Reps.one (show Kd.M (Kd.int .i64) _ _ _ (wrap64 (-a1)) [.int .i64 (wrap64 (-a1))] from rfl) (Reps.one (show Kd.M (Kd.int .i64) _ _ _ (wrap64 (a0_2 + 1)) [.int .i64 (wrap64 (a0_2 + 1))] from rfl) (Reps.none _ _)))); intro v120 w19 ho20 hb hg_ hnew_; clear hg_ hnew_; (first | rw [← Ny119.out] at ho20 | (simp only [Int.reduceToNat] at ho20; rw [← Ny119.out] at ho20)); have HO121 := am_ (Kd.R_lower (Kd.R_new' (Kd.R_newM (M := fun k_ => (w.heap.size ≤ k_)) ho20 (below_size (bq_)) (fun k_ h_ => h_)) (Kd.R_lt (rq_ HO118.out))) (below_size (bq_))); replace HO118 := am_ (Kd.R_elder' (rq_ HO118.out) (Kd.R_base ho20) hb); replace BK106 := bb_ BK106 hb; replace HB := bs_ hb; clear hb ho20) | ((with_reducible refine gate_dst (N := 41) rfl ?_); refine Kd.R_lit (Kd.int .i64) _ 3 ?hg (N := 41) ?hd (xs := ([a1, wrap64 (-(wrap64 (a0_1 + 1))), wrap64 (-(wrap64 (a0_2 + 1)))] : List Int)) (inner := [.int .i64 a1, .int .i64 (wrap64 (-(wrap64 (a0_1 + 1)))), .int .i64 (wrap64 (-(wrap64 (a0_2 + 1))))]) (ok := fun _ => True) (okp := fun _ => True) ?hr ?hp (fun _ hk => hk) trivial (Below.refl _ _) (Nat.le_refl _) (by simp) ?_; (case hd => rfl); (case hg => rfl); (case hr => first | (go_simp; done) | (go_simp; rfl)); (case hp => exact (Reps.one (show Kd.M (Kd.int .i64) _ _ _ a1 [.int .i64 a1] from rfl) (Reps.one (show Kd.M (Kd.int .i64) _ _ _ (wrap64 (-(wrap64 (a0_1 + 1)))) [.int .i64 (wrap64 (-(wrap64 (a0_1 + 1))))] from rfl) (Reps.one (show Kd.M (Kd.int .i64) _ _ _ (wrap64 (-(wrap64 (a0_2 + 1)))) [.int .i64 (wrap64 (-(wrap64 (a0_2 + 1))))] from rfl) (Reps.none _ _))))); intro v123 w21 ho22 hb hg_ hnew_; clear hg_ hnew_; (first | rw [← Ny122.out] at ho22 | (simp only [Int.reduceToNat] at ho22; rw [← Ny122.out] at ho22)); have HO124 := am_ (Kd.R_lower (Kd.R_new' (Kd.R_new' (Kd.R_newM (M := fun k_ => (w.heap.size ≤ k_)) ho22 (below_size (bq_)) (fun k_ h_ => h_)) (Kd.R_lt (rq_ HO118.out))) (Kd.R_lt (rq_ HO121.out))) (below_size (bq_))); replace HO118 := am_ (Kd.R_elder' (rq_ HO118.out) (Kd.R_base ho22) hb); replace HO121 := am_ (Kd.R_elder' (rq_ HO121.out) (Kd.R_base ho22) hb); replace BK106 := bb_ BK106 hb; replace HB := bs_ hb; clear hb ho22; obtain ⟨Ao23, co23, eo23⟩ := Kd.R_slice HO118.out; subst eo23; obtain ⟨Ao24, co24, eo24⟩ := Kd.R_slice HO121.out; subst eo24; obtain ⟨Ao25, co25, eo25⟩ := Kd.R_slice HO124.out; subst eo25) | ((with_reducible refine gate_dst (N := 42) rfl ?_); refine Kd.N_lit (Kd.slice 3 (Kd.int .i64)) _ 43 ?hg (N' := 42) ?hd (xs := ([y116, y119, y122] : List (List Int))) (inner := [.slice Ao23 y116.length co23, .slice Ao24 y119.length co24, .slice Ao25 y122.length co25]) (ok := (fun k_ => (w.heap.size ≤ k_) ∧ k_ ≠ gb106)) (okp := (fun k_ => (w.heap.size ≤ k_) ∧ k_ ≠ gb106)) ?hr ?hp (fun _ hk => hk) ((show ∀ k_, w21.heap.size ≤ k_ → (fun k_ => (w.heap.size ≤ k_) ∧ k_ ≠ gb106) k_ from fun k_ hk => ⟨(Nat.le_trans (below_size (bq_)) hk), Kd.freshB (g := gb106) (o := .cells #[.int .i64 a0_0, .int .i64 a0_1, .int .i64 a0_2] 69 (0, 0)) (bk_ BK106.out) k_ hk⟩) _ (Nat.le_refl _)) (Below.refl _ _) (Nat.le_refl _) (by simp) ?_; (case hd => rfl); (case hg => rfl); (case hr => first | (go_simp; done) | (go_simp; rfl)); (case hp => exact (Reps.one (show Kd.FK (Kd.slice 3 (Kd.int .i64)) _ _ y116 [.slice Ao23 y116.length co23] from (Kd.FK_slice_mk (Kd.R_reads' (Kd.R_mono (ok' := (fun k_ => (w.heap.size ≤ k_) ∧ k_ ≠ gb106)) (Kd.R_types (HO118.out) BK106.out (by decide)) (fun k_ hk => ⟨hk.1.1.1.1, hk.2⟩))).2.1 (Kd.R_F (Kd.R_mono (ok' := (fun k_ => (w.heap.size ≤ k_) ∧ k_ ≠ gb106)) (Kd.R_types (HO118.out) BK106.out (by decide)) (fun k_ hk => ⟨hk.1.1.1.1, hk.2⟩))))) (Reps.one (show Kd.FK (Kd.slice 3 (Kd.int .i64)) _ _ y119 [.slice Ao24 y119.length co24] from (Kd.FK_slice_mk (Kd.R_reads' (Kd.R_mono (ok' := (fun k_ => (w.heap.size ≤ k_) ∧ k_ ≠ gb106)) (Kd.R_types (HO121.out) BK106.out (by decide)) (fun k_ hk => ⟨hk.1.1.1.1, hk.2⟩))).2.1 (Kd.R_F (Kd.R_mono (ok' := (fun k_ => (w.heap.size ≤ k_) ∧ k_ ≠ gb106)) (Kd.R_types (HO121.out) BK106.out (by decide)) (fun k_ hk => ⟨hk.1.1.1.1, hk.2⟩))))) (Reps.one (show Kd.FK (Kd.slice 3 (Kd.int .i64)) _ _ y122 [.slice Ao25 y122.length co25] from (Kd.FK_slice_mk (Kd.R_reads' (Kd.R_mono (ok' := (fun k_ => (w.heap.size ≤ k_) ∧ k_ ≠ gb106)) (Kd.R_types (HO124.out) BK106.out (by decide)) (fun k_ hk => ⟨hk.1.1.1.1, hk.2⟩))).2.1 (Kd.R_F (Kd.R_mono (ok' := (fun k_ => (w.heap.size ≤ k_) ∧ k_ ≠ gb106)) (Kd.R_types (HO124.out) BK106.out (by decide)) (fun k_ hk => ⟨hk.1.1.1.1, hk.2⟩))))) (Reps.none _ _))))); intro v126 w26 ho27 hb hg_ hnew_; clear hg_ hnew_; (first | rw [← Ny125.out] at ho27 | (simp only [Int.reduceToNat] at ho27; rw [← Ny125.out] at ho27)); have HO127 := am_ (Kd.N_lower ho27 (below_size (bq_))); replace BK106 := bb_ BK106 hb; replace HB := bs_ hb; clear HO118 HO121 HO124; clear hb ho27))
   go_ret
   exact ⟨_, by first | rfl | (simp [errW_none, errW_some] <;> rfl) | (simp [*, errW_none, errW_some] <;> rfl), by (with_reducible repeat (first | apply Kd.N_alloc | apply Kd.N_drewN | apply Kd.N_drew)); exact Kd.N_mono HO127.out (fun _ hk => hk.1), bq_⟩
  ·rw [if_neg c14] at H
   have c14b0 : (a0_0 == 3) = false := beq_eq_false_iff_ne.mpr c14
   have c14b1 : (a0_0 != 3) = true := bne_iff_ne.mpr c14
   by_cases c28 : a0_0 = 4
   ·rw [if_pos c28] at H
    have c28b0 : (a0_0 == 4) = true := beq_iff_eq.mpr c28
    have c28b1 : (a0_0 != 4) = false := bne_eq_false_iff_eq.mpr c28
    clear c28
    obtain ⟨y128, hy128⟩ : ∃ y_ : List Int, y_ = (([a1, wrap64 (-(wrap64 (a0_1 + 1)))] : List Int)) := ⟨_, rfl⟩
    replace H : (some (([y128, (([a1, wrap64 (-(wrap64 (a0_2 + 1)))] : List Int)), (([wrap64 (-a1), wrap64 (a0_1 + 1), wrap64 (a0_2 + 1)] : List Int))] : List (List Int)))) = some r := by first | (rw [hy128]; with_reducible exact H) | (have H2_ := (Option.bind_some _ _).symm.trans H; rw [hy128]; with_reducible exact H2_) | (have H2_ := (Option.bind_some _ _).symm.trans H; with_reducible exact H2_) | with_reducible exact H | (rw [hy128]; exact H) | exact H
    have Ny128 := am_ hy128
    clear hy128
    obtain ⟨y131, hy131⟩ : ∃ y_ : List Int, y_ = (([a1, wrap64 (-(wrap64 (a0_2 + 1)))] : List Int)) := ⟨_, rfl⟩
    replace H : (some (([y128, y131, (([wrap64 (-a1), wrap64 (a0_1 + 1), wrap64 (a0_2 + 1)] : List Int))] : List (List Int)))) = some r := by first | (rw [hy131]; with_reducible exact H) | (have H2_ := (Option.bind_some _ _).symm.trans H; rw [hy131]; with_reducible exact H2_) | (have H2_ := (Option.bind_some _ _).symm.trans H; with_reducible exact H2_) | with_reducible exact H | (rw [hy131]; exact H) | exact H
    have Ny131 := am_ hy131
    clear hy131
    obtain ⟨y134, hy134⟩ : ∃ y_ : List Int, y_ = (([wrap64 (-a1), wrap64 (a0_1 + 1), wrap64 (a0_2 + 1)] : List Int)) := ⟨_, rfl⟩
    replace H : (some (([y128, y131, y134] : List (List Int)))) = some r := by first | (rw [hy134]; with_reducible exact H) | (have H2_ := (Option.bind_some _ _).symm.trans H; rw [hy134]; with_reducible exact H2_) | (have H2_ := (Option.bind_some _ _).symm.trans H; with_reducible exact H2_) | with_reducible exact H | (rw [hy134]; exact H) | exact H
    have Ny134 := am_ hy134
    clear hy134
    obtain ⟨y137, hy137⟩ : ∃ y_ : List (List Int), y_ = (([y128, y131, y134] : List (List Int))) := ⟨_, rfl⟩
    replace H : (some y137) = some r := by first | (rw [hy137]; with_reducible exact H) | (have H2_ := (Option.bind_some _ _).symm.trans H; rw [hy137]; with_reducible exact H2_) | (have H2_ := (Option.bind_some _ _).symm.trans H; with_reducible exact H2_) | with_reducible exact H | (rw [hy137]; exact H) | exact H
    have Ny137 := am_ hy137
    clear hy137
    obtain rfl := Option.some.inj H
    go_enter Try.func70, Try.ntmps70
    go_wp2_with (first | ((with_reducible refine gate_dst (N := 2) rfl ?_); refine boxq_ (N := 2) (cs := #[.int .i64 a0_0, .int .i64 a0_1, .int .i64 a0_2]) (t := 69) ?_; intro gb106 hg w29 hbox hb; have BK106 := am_ (hbox); have GW106 := gz_ hg; have GE106 := gz_ hg; replace HB := bs_ hb; clear hb hbox hg; have hcz30_0 := cq_ BK106.out 0 (.int .i64 a0_0); have hcz30_1 := cq_ BK106.out 1 (.int .i64 a0_1); have hcz30_2 := cq_ BK106.out 2 (.int .i64 a0_2); have hfz30_0 := blk_frozen BK106.out 0; have hfz30_1 := blk_frozen BK106.out 1; have hfz30_2 := blk_frozen BK106.out 2) | ((with_reducible refine gate_dst (N := 48) rfl ?_); refine Kd.R_lit (Kd.int .i64) _ 3 ?hg (N := 48) ?hd (xs := ([a1, wrap64 (-(wrap64 (a0_1 + 1)))] : List Int)) (inner := [.int .i64 a1, .int .i64 (wrap64 (-(wrap64 (a0_1 + 1))))]) (ok := fun _ => True) (okp := fun _ => True) ?hr ?hp (fun _ hk => hk) trivial (Below.refl _ _) (Nat.le_refl _) (by simp) ?_; (case hd => rfl); (case hg => rfl); (case hr => first | (go_simp; done) | (go_simp; rfl)); (case hp => exact (Reps.one (show Kd.M (Kd.int .i64) _ _ _ a1 [.int .i64 a1] from rfl) (Reps.one (show Kd.M (Kd.int .i64) _ _ _ (wrap64 (-(wrap64 (a0_1 + 1)))) [.int .i64 (wrap64 (-(wrap64 (a0_1 + 1))))] from rfl) (Reps.none _ _)))); intro v129 w31 ho32 hb hg_ hnew_; clear hg_ hnew_; (first | rw [← Ny128.out] at ho32 | (simp only [Int.reduceToNat] at ho32; rw [← Ny128.out] at ho32)); have HO130 := am_ (Kd.R_lower (Kd.R_newM (M := fun k_ => (w.heap.size ≤ k_)) ho32 (below_size (bq_)) (fun k_ h_ => h_)) (below_size (bq_))); replace BK106 := bb_ BK106 hb; replace HB := bs_ hb; clear hb ho32) | ((with_reducible refine gate_dst (N := 52) rfl ?_); refine Kd.R_lit (Kd.int .i64) _ 3 ?hg (N := 52) ?hd (xs := ([a1, wrap64 (-(wrap64 (a0_2 + 1)))] : List Int)) (inner := [.int .i64 a1, .int .i64 (wrap64 (-(wrap64 (a0_2 + 1))))]) (ok := fun _ => True) (okp := fun _ => True) ?hr ?hp (fun _ hk => hk) trivial (Below.refl _ _) (Nat.le_refl _) (by simp) ?_; (case hd => rfl); (case hg => rfl); (case hr => first | (go_simp; done) | (go_simp; rfl)); (case hp => exact (Reps.one (show Kd.M (Kd.int .i64) _ _ _ a1 [.int .i64 a1] from rfl) (Reps.one (show Kd.M (Kd.int .i64) _ _ _ (wrap64 (-(wrap64 (a0_2 + 1)))) [.int .i64 (wrap64 (-(wrap64 (a0_2 + 1))))] from rfl) (Reps.none _ _)))); intro v132 w33 ho34 hb hg_ hnew_; clear hg_ hnew_; (first | rw [← Ny131.out] at ho34 | (simp only [Int.reduceToNat] at ho34; rw [← Ny131.out] at ho34)); have HO133 := am_ (Kd.R_lower (Kd.R_new' (Kd.R_newM (M := fun k_ => (w.heap.size ≤ k_)) ho34 (below_size (bq_)) (fun k_ h_ => h_)) (Kd.R_lt (rq_ HO130.out))) (below_size (bq_))); replace HO130 := am_ (Kd.R_elder' (rq_ HO130.out) (Kd.R_base ho34) hb); replace BK106 := bb_ BK106 hb; replace HB := bs_ hb; clear hb ho34) | ((with_reducible refine gate_dst (N := 57) rfl ?_); refine Kd.R_lit (Kd.int .i64) _ 3 ?hg (N := 57) ?hd (xs := ([wrap64 (-a1), wrap64 (a0_1 + 1), wrap64 (a0_2 + 1)] : List Int)) (inner := [.int .i64 (wrap64 (-a1)), .int .i64 (wrap64 (a0_1 + 1)), .int .i64 (wrap64 (a0_2 + 1))]) (ok := fun _ => True) (okp := fun _ => True) ?hr ?hp (fun _ hk => hk) trivial (Below.refl _ _) (Nat.le_refl _) (by simp) ?_; (case hd => rfl); (case hg => rfl); (case hr => first | (go_simp; done) | (go_simp; rfl)); (case hp => exact (Reps.one (show Kd.M (Kd.int .i64) _ _ _ (wrap64 (-a1)) [.int .i64 (wrap64 (-a1))] from rfl) (Reps.one (show Kd.M (Kd.int .i64) _ _ _ (wrap64 (a0_1 + 1)) [.int .i64 (wrap64 (a0_1 + 1))] from rfl) (Reps.one (show Kd.M (Kd.int .i64) _ _ _ (wrap64 (a0_2 + 1)) [.int .i64 (wrap64 (a0_2 + 1))] from rfl) (Reps.none _ _))))); intro v135 w35 ho36 hb hg_ hnew_; clear hg_ hnew_; (first | rw [← Ny134.out] at ho36 | (simp only [Int.reduceToNat] at ho36; rw [← Ny134.out] at ho36)); have HO136 := am_ (Kd.R_lower (Kd.R_new' (Kd.R_new' (Kd.R_newM (M := fun k_ => (w.heap.size ≤ k_)) ho36 (below_size (bq_)) (fun k_ h_ => h_)) (Kd.R_lt (rq_ HO130.out))) (Kd.R_lt (rq_ HO133.out))) (below_size (bq_))); replace HO130 := am_ (Kd.R_elder' (rq_ HO130.out) (Kd.R_base ho36) hb); replace HO133 := am_ (Kd.R_elder' (rq_ HO133.out) (Kd.R_base ho36) hb); replace BK106 := bb_ BK106 hb; replace HB := bs_ hb; clear hb ho36; obtain ⟨Ao37, co37, eo37⟩ := Kd.R_slice HO130.out; subst eo37; obtain ⟨Ao38, co38, eo38⟩ := Kd.R_slice HO133.out; subst eo38; obtain ⟨Ao39, co39, eo39⟩ := Kd.R_slice HO136.out; subst eo39) | ((with_reducible refine gate_dst (N := 58) rfl ?_); refine Kd.N_lit (Kd.slice 3 (Kd.int .i64)) _ 43 ?hg (N' := 58) ?hd (xs := ([y128, y131, y134] : List (List Int))) (inner := [.slice Ao37 y128.length co37, .slice Ao38 y131.length co38, .slice Ao39 y134.length co39]) (ok := (fun k_ => (w.heap.size ≤ k_) ∧ k_ ≠ gb106)) (okp := (fun k_ => (w.heap.size ≤ k_) ∧ k_ ≠ gb106)) ?hr ?hp (fun _ hk => hk) ((show ∀ k_, w35.heap.size ≤ k_ → (fun k_ => (w.heap.size ≤ k_) ∧ k_ ≠ gb106) k_ from fun k_ hk => ⟨(Nat.le_trans (below_size (bq_)) hk), Kd.freshB (g := gb106) (o := .cells #[.int .i64 a0_0, .int .i64 a0_1, .int .i64 a0_2] 69 (0, 0)) (bk_ BK106.out) k_ hk⟩) _ (Nat.le_refl _)) (Below.refl _ _) (Nat.le_refl _) (by simp) ?_; (case hd => rfl); (case hg => rfl); (case hr => first | (go_simp; done) | (go_simp; rfl)); (case hp => exact (Reps.one (show Kd.FK (Kd.slice 3 (Kd.int .i64)) _ _ y128 [.slice Ao37 y128.length co37] from (Kd.FK_slice_mk (Kd.R_reads' (Kd.R_mono (ok' := (fun k_ => (w.heap.size ≤ k_) ∧ k_ ≠ gb106)) (Kd.R_types (HO130.out) BK106.out (by decide)) (fun k_ hk => ⟨hk.1.1.1.1, hk.2⟩))).2.1 (Kd.R_F (Kd.R_mono (ok' := (fun k_ => (w.heap.size ≤ k_) ∧ k_ ≠ gb106)) (Kd.R_types (HO130.out) BK106.out (by decide)) (fun k_ hk => ⟨hk.1.1.1.1, hk.2⟩))))) (Reps.one (show Kd.FK (Kd.slice 3 (Kd.int .i64)) _ _ y131 [.slice Ao38 y131.length co38] from (Kd.FK_slice_mk (Kd.R_reads' (Kd.R_mono (ok' := (fun k_ => (w.heap.size ≤ k_) ∧ k_ ≠ gb106)) (Kd.R_types (HO133.out) BK106.out (by decide)) (fun k_ hk => ⟨hk.1.1.1.1, hk.2⟩))).2.1 (Kd.R_F (Kd.R_mono (ok' := (fun k_ => (w.heap.size ≤ k_) ∧ k_ ≠ gb106)) (Kd.R_types (HO133.out) BK106.out (by decide)) (fun k_ hk => ⟨hk.1.1.1.1, hk.2⟩))))) (Reps.one (show Kd.FK (Kd.slice 3 (Kd.int .i64)) _ _ y134 [.slice Ao39 y134.length co39] from (Kd.FK_slice_mk (Kd.R_reads' (Kd.R_mono (ok' := (fun k_ => (w.heap.size ≤ k_) ∧ k_ ≠ gb106)) (Kd.R_types (HO136.out) BK106.out (by decide)) (fun k_ hk => ⟨hk.1.1.1.1, hk.2⟩))).2.1 (Kd.R_F (Kd.R_mono (ok' := (fun k_ => (w.heap.size ≤ k_) ∧ k_ ≠ gb106)) (Kd.R_types (HO136.out) BK106.out (by decide)) (fun k_ hk => ⟨hk.1.1.1.1, hk.2⟩))))) (Reps.none _ _))))); intro v138 w40 ho41 hb hg_ hnew_; clear hg_ hnew_; (first | rw [← Ny137.out] at ho41 | (simp only [Int.reduceToNat] at ho41; rw [← Ny137.out] at ho41)); have HO139 := am_ (Kd.N_lower ho41 (below_size (bq_))); replace BK106 := bb_ BK106 hb; replace HB := bs_ hb; clear HO130 HO133 HO136; clear hb ho41))
    go_ret
    exact ⟨_, by first | rfl | (simp [errW_none, errW_some] <;> rfl) | (simp [*, errW_none, errW_some] <;> rfl), by (with_reducible repeat (first | apply Kd.N_alloc | apply Kd.N_drewN | apply Kd.N_drew)); exact Kd.N_mono HO139.out (fun _ hk => hk.1), bq_⟩
   ·rw [if_neg c28] at H
    have c28b0 : (a0_0 == 4) = false := beq_eq_false_iff_ne.mpr c28
    have c28b1 : (a0_0 != 4) = true := bne_iff_ne.mpr c28
    by_cases c42 : a0_0 = 5
    ·rw [if_pos c42] at H
     have c42b0 : (a0_0 == 5) = true := beq_iff_eq.mpr c42
     have c42b1 : (a0_0 != 5) = false := bne_eq_false_iff_eq.mpr c42
     clear c42
     obtain ⟨y140, hy140⟩ : ∃ y_ : List Int, y_ = (([wrap64 (-a1), wrap64 (a0_1 + 1), wrap64 (a0_2 + 1)] : List Int)) := ⟨_, rfl⟩
     replace H : (some (([y140, (([wrap64 (-a1), wrap64 (-(wrap64 (a0_1 + 1))), wrap64 (-(wrap64 (a0_2 + 1)))] : List Int)), (([a1, wrap64 (-(wrap64 (a0_1 + 1))), wrap64 (a0_2 + 1)] : List Int)), (([a1, wrap64 (a0_1 + 1), wrap64 (-(wrap64 (a0_2 + 1)))] : List Int))] : List (List Int)))) = some r := by first | (rw [hy140]; with_reducible exact H) | (have H2_ := (Option.bind_some _ _).symm.trans H; rw [hy140]; with_reducible exact H2_) | (have H2_ := (Option.bind_some _ _).symm.trans H; with_reducible exact H2_) | with_reducible exact H | (rw [hy140]; exact H) | exact H
     have Ny140 := am_ hy140
     clear hy140
     obtain ⟨y143, hy143⟩ : ∃ y_ : List Int, y_ = (([wrap64 (-a1), wrap64 (-(wrap64 (a0_1 + 1))), wrap64 (-(wrap64 (a0_2 + 1)))] : List Int)) := ⟨_, rfl⟩
     replace H : (some (([y140, y143, (([a1, wrap64 (-(wrap64 (a0_1 + 1))), wrap64 (a0_2 + 1)] : List Int)), (([a1, wrap64 (a0_1 + 1), wrap64 (-(wrap64 (a0_2 + 1)))] : List Int))] : List (List Int)))) = some r := by first | (rw [hy143]; with_reducible exact H) | (have H2_ := (Option.bind_some _ _).symm.trans H; rw [hy143]; with_reducible exact H2_) | (have H2_ := (Option.bind_some _ _).symm.trans H; with_reducible exact H2_) | with_reducible exact H | (rw [hy143]; exact H) | exact H
     have Ny143 := am_ hy143
     clear hy143
     obtain ⟨y146, hy146⟩ : ∃ y_ : List Int, y_ = (([a1, wrap64 (-(wrap64 (a0_1 + 1))), wrap64 (a0_2 + 1)] : List Int)) := ⟨_, rfl⟩
     replace H : (some (([y140, y143, y146, (([a1, wrap64 (a0_1 + 1), wrap64 (-(wrap64 (a0_2 + 1)))] : List Int))] : List (List Int)))) = some r := by first | (rw [hy146]; with_reducible exact H) | (have H2_ := (Option.bind_some _ _).symm.trans H; rw [hy146]; with_reducible exact H2_) | (have H2_ := (Option.bind_some _ _).symm.trans H; with_reducible exact H2_) | with_reducible exact H | (rw [hy146]; exact H) | exact H
     have Ny146 := am_ hy146
     clear hy146
     obtain ⟨y149, hy149⟩ : ∃ y_ : List Int, y_ = (([a1, wrap64 (a0_1 + 1), wrap64 (-(wrap64 (a0_2 + 1)))] : List Int)) := ⟨_, rfl⟩
     replace H : (some (([y140, y143, y146, y149] : List (List Int)))) = some r := by first | (rw [hy149]; with_reducible exact H) | (have H2_ := (Option.bind_some _ _).symm.trans H; rw [hy149]; with_reducible exact H2_) | (have H2_ := (Option.bind_some _ _).symm.trans H; with_reducible exact H2_) | with_reducible exact H | (rw [hy149]; exact H) | exact H
     have Ny149 := am_ hy149
     clear hy149
     obtain ⟨y152, hy152⟩ : ∃ y_ : List (List Int), y_ = (([y140, y143, y146, y149] : List (List Int))) := ⟨_, rfl⟩
     replace H : (some y152) = some r := by first | (rw [hy152]; with_reducible exact H) | (have H2_ := (Option.bind_some _ _).symm.trans H; rw [hy152]; with_reducible exact H2_) | (have H2_ := (Option.bind_some _ _).symm.trans H; with_reducible exact H2_) | with_reducible exact H | (rw [hy152]; exact H) | exact H
     have Ny152 := am_ hy152
     clear hy152
     obtain rfl := Option.some.inj H
     go_enter Try.func70, Try.ntmps70
     go_wp2_with (first | ((with_reducible refine gate_dst (N := 2) rfl ?_); refine boxq_ (N := 2) (cs := #[.int .i64 a0_0, .int .i64 a0_1, .int .i64 a0_2]) (t := 69) ?_; intro gb106 hg w43 hbox hb; have BK106 := am_ (hbox); have GW106 := gz_ hg; have GE106 := gz_ hg; replace HB := bs_ hb; clear hb hbox hg; have hcz44_0 := cq_ BK106.out 0 (.int .i64 a0_0); have hcz44_1 := cq_ BK106.out 1 (.int .i64 a0_1); have hcz44_2 := cq_ BK106.out 2 (.int .i64 a0_2); have hfz44_0 := blk_frozen BK106.out 0; have hfz44_1 := blk_frozen BK106.out 1; have hfz44_2 := blk_frozen BK106.out 2) | ((with_reducible refine gate_dst (N := 65) rfl ?_); refine Kd.R_lit (Kd.int .i64) _ 3 ?hg (N := 65) ?hd (xs := ([wrap64 (-a1), wrap64 (a0_1 + 1), wrap64 (a0_2 + 1)] : List Int)) (inner := [.int .i64 (wrap64 (-a1)), .int .i64 (wrap64 (a0_1 + 1)), .int .i64 (wrap64 (a0_2 + 1))]) (ok := fun _ => True) (okp := fun _ => True) ?hr ?hp (fun _ hk => hk) trivial (Below.refl _ _) (Nat.le_refl _) (by simp) ?_; (case hd => rfl); (case hg => rfl); (case hr => first | (go_simp; done) | (go_simp; rfl)); (case hp => exact (Reps.one (show Kd.M (Kd.int .i64) _ _ _ (wrap64 (-a1)) [.int .i64 (wrap64 (-a1))] from rfl) (Reps.one (show Kd.M (Kd.int .i64) _ _ _ (wrap64 (a0_1 + 1)) [.int .i64 (wrap64 (a0_1 + 1))] from rfl) (Reps.one (show Kd.M (Kd.int .i64) _ _ _ (wrap64 (a0_2 + 1)) [.int .i64 (wrap64 (a0_2 + 1))] from rfl) (Reps.none _ _))))); intro v141 w45 ho46 hb hg_ hnew_; clear hg_ hnew_; (first | rw [← Ny140.out] at ho46 | (simp only [Int.reduceToNat] at ho46; rw [← Ny140.out] at ho46)); have HO142 := am_ (Kd.R_lower (Kd.R_newM (M := fun k_ => (w.heap.size ≤ k_)) ho46 (below_size (bq_)) (fun k_ h_ => h_)) (below_size (bq_))); replace BK106 := bb_ BK106 hb; replace HB := bs_ hb; clear hb ho46) | ((with_reducible refine gate_dst (N := 72) rfl ?_); refine Kd.R_lit (Kd.int .i64) _ 3 ?hg (N := 72) ?hd (xs := ([wrap64 (-a1), wrap64 (-(wrap64 (a0_1 + 1))), wrap64 (-(wrap64 (a0_2 + 1)))] : List Int)) (inner := [.int .i64 (wrap64 (-a1)), .int .i64 (wrap64 (-(wrap64 (a0_1 + 1)))), .int .i64 (wrap64 (-(wrap64 (a0_2 + 1))))]) (ok := fun _ => True) (okp := fun _ => True) ?hr ?hp (fun _ hk => hk) trivial (Below.refl _ _) (Nat.le_refl _) (by simp) ?_; (case hd => rfl); (case hg => rfl); (case hr => first | (go_simp; done) | (go_simp; rfl)); (case hp => exact (Reps.one (show Kd.M (Kd.int .i64) _ _ _ (wrap64 (-a1)) [.int .i64 (wrap64 (-a1))] from rfl) (Reps.one (show Kd.M (Kd.int .i64) _ _ _ (wrap64 (-(wrap64 (a0_1 + 1)))) [.int .i64 (wrap64 (-(wrap64 (a0_1 + 1))))] from rfl) (Reps.one (show Kd.M (Kd.int .i64) _ _ _ (wrap64 (-(wrap64 (a0_2 + 1)))) [.int .i64 (wrap64 (-(wrap64 (a0_2 + 1))))] from rfl) (Reps.none _ _))))); intro v144 w47 ho48 hb hg_ hnew_; clear hg_ hnew_; (first | rw [← Ny143.out] at ho48 | (simp only [Int.reduceToNat] at ho48; rw [← Ny143.out] at ho48)); have HO145 := am_ (Kd.R_lower (Kd.R_new' (Kd.R_newM (M := fun k_ => (w.heap.size ≤ k_)) ho48 (below_size (bq_)) (fun k_ h_ => h_)) (Kd.R_lt (rq_ HO142.out))) (below_size (bq_))); replace HO142 := am_ (Kd.R_elder' (rq_ HO142.out) (Kd.R_base ho48) hb); replace BK106 := bb_ BK106 hb; replace HB := bs_ hb; clear hb ho48) | ((with_reducible refine gate_dst (N := 77) rfl ?_); refine Kd.R_lit (Kd.int .i64) _ 3 ?hg (N := 77) ?hd (xs := ([a1, wrap64 (-(wrap64 (a0_1 + 1))), wrap64 (a0_2 + 1)] : List Int)) (inner := [.int .i64 a1, .int .i64 (wrap64 (-(wrap64 (a0_1 + 1)))), .int .i64 (wrap64 (a0_2 + 1))]) (ok := fun _ => True) (okp := fun _ => True) ?hr ?hp (fun _ hk => hk) trivial (Below.refl _ _) (Nat.le_refl _) (by simp) ?_; (case hd => rfl); (case hg => rfl); (case hr => first | (go_simp; done) | (go_simp; rfl)); (case hp => exact (Reps.one (show Kd.M (Kd.int .i64) _ _ _ a1 [.int .i64 a1] from rfl) (Reps.one (show Kd.M (Kd.int .i64) _ _ _ (wrap64 (-(wrap64 (a0_1 + 1)))) [.int .i64 (wrap64 (-(wrap64 (a0_1 + 1))))] from rfl) (Reps.one (show Kd.M (Kd.int .i64) _ _ _ (wrap64 (a0_2 + 1)) [.int .i64 (wrap64 (a0_2 + 1))] from rfl) (Reps.none _ _))))); intro v147 w49 ho50 hb hg_ hnew_; clear hg_ hnew_; (first | rw [← Ny146.out] at ho50 | (simp only [Int.reduceToNat] at ho50; rw [← Ny146.out] at ho50)); have HO148 := am_ (Kd.R_lower (Kd.R_new' (Kd.R_new' (Kd.R_newM (M := fun k_ => (w.heap.size ≤ k_)) ho50 (below_size (bq_)) (fun k_ h_ => h_)) (Kd.R_lt (rq_ HO142.out))) (Kd.R_lt (rq_ HO145.out))) (below_size (bq_))); replace HO142 := am_ (Kd.R_elder' (rq_ HO142.out) (Kd.R_base ho50) hb); replace HO145 := am_ (Kd.R_elder' (rq_ HO145.out) (Kd.R_base ho50) hb); replace BK106 := bb_ BK106 hb; replace HB := bs_ hb; clear hb ho50) | ((with_reducible refine gate_dst (N := 82) rfl ?_); refine Kd.R_lit (Kd.int .i64) _ 3 ?hg (N := 82) ?hd (xs := ([a1, wrap64 (a0_1 + 1), wrap64 (-(wrap64 (a0_2 + 1)))] : List Int)) (inner := [.int .i64 a1, .int .i64 (wrap64 (a0_1 + 1)), .int .i64 (wrap64 (-(wrap64 (a0_2 + 1))))]) (ok := fun _ => True) (okp := fun _ => True) ?hr ?hp (fun _ hk => hk) trivial (Below.refl _ _) (Nat.le_refl _) (by simp) ?_; (case hd => rfl); (case hg => rfl); (case hr => first | (go_simp; done) | (go_simp; rfl)); (case hp => exact (Reps.one (show Kd.M (Kd.int .i64) _ _ _ a1 [.int .i64 a1] from rfl) (Reps.one (show Kd.M (Kd.int .i64) _ _ _ (wrap64 (a0_1 + 1)) [.int .i64 (wrap64 (a0_1 + 1))] from rfl) (Reps.one (show Kd.M (Kd.int .i64) _ _ _ (wrap64 (-(wrap64 (a0_2 + 1)))) [.int .i64 (wrap64 (-(wrap64 (a0_2 + 1))))] from rfl) (Reps.none _ _))))); intro v150 w51 ho52 hb hg_ hnew_; clear hg_ hnew_; (first | rw [← Ny149.out] at ho52 | (simp only [Int.reduceToNat] at ho52; rw [← Ny149.out] at ho52)); have HO151 := am_ (Kd.R_lower (Kd.R_new' (Kd.R_new' (Kd.R_new' (Kd.R_newM (M := fun k_ => (w.heap.size ≤ k_)) ho52 (below_size (bq_)) (fun k_ h_ => h_)) (Kd.R_lt (rq_ HO142.out))) (Kd.R_lt (rq_ HO145.out))) (Kd.R_lt (rq_ HO148.out))) (below_size (bq_))); replace HO142 := am_ (Kd.R_elder' (rq_ HO142.out) (Kd.R_base ho52) hb); replace HO145 := am_ (Kd.R_elder' (rq_ HO145.out) (Kd.R_base ho52) hb); replace HO148 := am_ (Kd.R_elder' (rq_ HO148.out) (Kd.R_base ho52) hb); replace BK106 := bb_ BK106 hb; replace HB := bs_ hb; clear hb ho52; obtain ⟨Ao53, co53, eo53⟩ := Kd.R_slice HO142.out; subst eo53; obtain ⟨Ao54, co54, eo54⟩ := Kd.R_slice HO145.out; subst eo54; obtain ⟨Ao55, co55, eo55⟩ := Kd.R_slice HO148.out; subst eo55; obtain ⟨Ao56, co56, eo56⟩ := Kd.R_slice HO151.out; subst eo56) | ((with_reducible refine gate_dst (N := 83) rfl ?_); refine Kd.N_lit (Kd.slice 3 (Kd.int .i64)) _ 43 ?hg (N' := 83) ?hd (xs := ([y140, y143, y146, y149] : List (List Int))) (inner := [.slice Ao53 y140.length co53, .slice Ao54 y143.length co54, .slice Ao55 y146.length co55, .slice Ao56 y149.length co56]) (ok := (fun k_ => (w.heap.size ≤ k_) ∧ k_ ≠ gb106)) (okp := (fun k_ => (w.heap.size ≤ k_) ∧ k_ ≠ gb106)) ?hr ?hp (fun _ hk => hk) ((show ∀ k_, w51.heap.size ≤ k_ → (fun k_ => (w.heap.size ≤ k_) ∧ k_ ≠ gb106) k_ from fun k_ hk => ⟨(Nat.le_trans (below_size (bq_)) hk), Kd.freshB (g := gb106) (o := .cells #[.int .i64 a0_0, .int .i64 a0_1, .int .i64 a0_2] 69 (0, 0)) (bk_ BK106.out) k_ hk⟩) _ (Nat.le_refl _)) (Below.refl _ _) (Nat.le_refl _) (by simp) ?_; (case hd => rfl); (case hg => rfl); (case hr => first | (go_simp; done) | (go_simp; rfl)); (case hp => exact (Reps.one (show Kd.FK (Kd.slice 3 (Kd.int .i64)) _ _ y140 [.slice Ao53 y140.length co53] from (Kd.FK_slice_mk (Kd.R_reads' (Kd.R_mono (ok' := (fun k_ => (w.heap.size ≤ k_) ∧ k_ ≠ gb106)) (Kd.R_types (HO142.out) BK106.out (by decide)) (fun k_ hk => ⟨hk.1.1.1.1.1, hk.2⟩))).2.1 (Kd.R_F (Kd.R_mono (ok' := (fun k_ => (w.heap.size ≤ k_) ∧ k_ ≠ gb106)) (Kd.R_types (HO142.out) BK106.out (by decide)) (fun k_ hk => ⟨hk.1.1.1.1.1, hk.2⟩))))) (Reps.one (show Kd.FK (Kd.slice 3 (Kd.int .i64)) _ _ y143 [.slice Ao54 y143.length co54] from (Kd.FK_slice_mk (Kd.R_reads' (Kd.R_mono (ok' := (fun k_ => (w.heap.size ≤ k_) ∧ k_ ≠ gb106)) (Kd.R_types (HO145.out) BK106.out (by decide)) (fun k_ hk => ⟨hk.1.1.1.1.1, hk.2⟩))).2.1 (Kd.R_F (Kd.R_mono (ok' := (fun k_ => (w.heap.size ≤ k_) ∧ k_ ≠ gb106)) (Kd.R_types (HO145.out) BK106.out (by decide)) (fun k_ hk => ⟨hk.1.1.1.1.1, hk.2⟩))))) (Reps.one (show Kd.FK (Kd.slice 3 (Kd.int .i64)) _ _ y146 [.slice Ao55 y146.length co55] from (Kd.FK_slice_mk (Kd.R_reads' (Kd.R_mono (ok' := (fun k_ => (w.heap.size ≤ k_) ∧ k_ ≠ gb106)) (Kd.R_types (HO148.out) BK106.out (by decide)) (fun k_ hk => ⟨hk.1.1.1.1.1, hk.2⟩))).2.1 (Kd.R_F (Kd.R_mono (ok' := (fun k_ => (w.heap.size ≤ k_) ∧ k_ ≠ gb106)) (Kd.R_types (HO148.out) BK106.out (by decide)) (fun k_ hk => ⟨hk.1.1.1.1.1, hk.2⟩))))) (Reps.one (show Kd.FK (Kd.slice 3 (Kd.int .i64)) _ _ y149 [.slice Ao56 y149.length co56] from (Kd.FK_slice_mk (Kd.R_reads' (Kd.R_mono (ok' := (fun k_ => (w.heap.size ≤ k_) ∧ k_ ≠ gb106)) (Kd.R_types (HO151.out) BK106.out (by decide)) (fun k_ hk => ⟨hk.1.1.1.1.1, hk.2⟩))).2.1 (Kd.R_F (Kd.R_mono (ok' := (fun k_ => (w.heap.size ≤ k_) ∧ k_ ≠ gb106)) (Kd.R_types (HO151.out) BK106.out (by decide)) (fun k_ hk => ⟨hk.1.1.1.1.1, hk.2⟩))))) (Reps.none _ _)))))); intro v153 w57 ho58 hb hg_ hnew_; clear hg_ hnew_; (first | rw [← Ny152.out] at ho58 | (simp only [Int.reduceToNat] at ho58; rw [← Ny152.out] at ho58)); have HO154 := am_ (Kd.N_lower ho58 (below_size (bq_))); replace BK106 := bb_ BK106 hb; replace HB := bs_ hb; clear HO142 HO145 HO148 HO151; clear hb ho58))
     go_ret
     exact ⟨_, by first | rfl | (simp [errW_none, errW_some] <;> rfl) | (simp [*, errW_none, errW_some] <;> rfl), by (with_reducible repeat (first | apply Kd.N_alloc | apply Kd.N_drewN | apply Kd.N_drew)); exact Kd.N_mono HO154.out (fun _ hk => hk.1), bq_⟩
    ·rw [if_neg c42] at H
     have c42b0 : (a0_0 == 5) = false := beq_eq_false_iff_ne.mpr c42
     have c42b1 : (a0_0 != 5) = true := bne_iff_ne.mpr c42
     obtain rfl := Option.some.inj H
     go_enter Try.func70, Try.ntmps70
     go_wp2_with (first | ((with_reducible refine gate_dst (N := 2) rfl ?_); refine boxq_ (N := 2) (cs := #[.int .i64 a0_0, .int .i64 a0_1, .int .i64 a0_2]) (t := 69) ?_; intro gb106 hg w59 hbox hb; have BK106 := am_ (hbox); have GW106 := gz_ hg; have GE106 := gz_ hg; replace HB := bs_ hb; clear hb hbox hg; have hcz60_0 := cq_ BK106.out 0 (.int .i64 a0_0); have hcz60_1 := cq_ BK106.out 1 (.int .i64 a0_1); have hcz60_2 := cq_ BK106.out 2 (.int .i64 a0_2); have hfz60_0 := blk_frozen BK106.out 0; have hfz60_1 := blk_frozen BK106.out 1; have hfz60_2 := blk_frozen BK106.out 2))
     go_ret
     exact ⟨_, by first | rfl | (simp [errW_none, errW_some] <;> rfl) | (simp [*, errW_none, errW_some] <;> rfl), by first | exact Kd.S_nil _ _ _ _ _ | exact Kd.N_nil _ _ _ _ _ | exact Kd.V_nil _ _ _ _ _ | exact Kd.Q_nil _ _ _ _ _ | exact Kd.R_nil _ _ _ _ _, bq_⟩
def spec_l1Has.l0 : Nat → Int → List Int → Int → Int → Option (Bool)
 | 0, _, _, _, _ => none
 | k + 1, x1, x7, x8, x9 => if x9 < x8 then (if 0 ≤ x9 then (if x9 < (x7.length : Int) then (if (rd x7 x9) = x1 then (some true) else (spec_l1Has.l0 k x1 x7 x8 (wrap64 (x9 + 1)))) else (none)) else (none)) else (some false)
def spec_l1Has.f (k : Nat) (l0 : List Int) (a1 : Int) : Option (Bool) := spec_l1Has.l0 k a1 l0 (l0.length : Int) 0
set_option maxHeartbeats 8000000 in
set_option maxRecDepth 100000 in
theorem spec_l1Has.calls (k : Nat) (A0 : Option Addr) (c0 : Nat) (l0 : List Int) (a1 : Int) (r : Bool) (w : World) (hr0 : Kd.C (Kd.int .i64) w A0 l0.length l0) (hc0 : l0.length ≤ c0) (h : spec_l1Has.f k l0 a1 = some r) :
  Calls Try.prog 86 #[.slice A0 l0.length c0, .int .i64 a1] w fun e w' => e = .returned (.bool r) ∧ Drawn0 w w' := by
 have HR0 := am_ hr0
 have HC0 := am_ hc0
 clear hr0 hc0
 have H : (spec_l1Has.l0 k a1 l0 (l0.length : Int) 0) = some r := h
 clear h
 have H' := am_ H
 clear H
 go_enter Try.func86, Try.ntmps86
 go_wp2
 go_loopg [9] k (fun kq v9 w' => ∃ (x9_1 : Int), v9 = .int .i64 x9_1 ∧ Aside0 (spec_l1Has.l0 kq a1 l0 (l0.length : Int) x9_1 = some r) ∧ Aside0 (kq ≤ k) ∧ Drawn0 w w')
 case atStart => exact ⟨(0), y53_, H', ⟨Nat.le_refl _⟩, by repeat (first | exact Drawn0.refl _ | apply Drawn0.step)⟩
 case round =>
  clear H'
  try clear p2
  obtain ⟨x9_1, rfl, HA, HK1, ⟨m1, rfl⟩⟩ := hrel
  cases gk with
  | zero => exact absurd HA.out (by simp [spec_l1Has.l0])
  | succ k1 =>
   have H := HA.out
   clear HA
   simp only [spec_l1Has.l0] at H
   by_cases c3 : x9_1 < (l0.length : Int)
   ·rw [if_pos c3] at H
    have c3b0 : decide (x9_1 < (l0.length : Int)) = true := decide_eq_true c3
    clear c3
    by_cases c4 : 0 ≤ x9_1
    ·rw [if_pos c4] at H
     have c4b0 : decide (0 ≤ x9_1) = true := decide_eq_true c4
     clear c4
     by_cases c5 : x9_1 < (l0.length : Int)
     ·rw [if_pos c5] at H
      have c5b0 : decide (x9_1 < (l0.length : Int)) = true := decide_eq_true c5
      clear c5
      by_cases c6 : (rd l0 x9_1) = a1
      ·rw [if_pos c6] at H
       have c6b0 : ((rd l0 x9_1) == a1) = true := beq_iff_eq.mpr c6
       have c6b1 : ((rd l0 x9_1) != a1) = false := bne_eq_false_iff_eq.mpr c6
       clear c6
       obtain rfl := Option.some.inj H
       have p155 : 0 ≤ (x9_1 : Int) := od_
       have q155 : x9_1 < (l0.length : Int) := od_
       obtain ⟨ad155, e155, hx155_0⟩ := Kd.at_int HR0.out x9_1 p155 q155
       cases e155
       replace p155 := eq_true p155
       replace q155 := eq_true q155
       go_wp2
       go_ret
       exact ⟨by first | rfl | (simp; done) | (simp [*]; done), by repeat (first | exact Drawn0.refl _ | apply Drawn0.step)⟩
      ·rw [if_neg c6] at H
       have c6b0 : ((rd l0 x9_1) == a1) = false := beq_eq_false_iff_ne.mpr c6
       have c6b1 : ((rd l0 x9_1) != a1) = true := bne_iff_ne.mpr c6
       have H' := am_ H
       clear H
       have p155 : 0 ≤ (x9_1 : Int) := od_
       have q155 : x9_1 < (l0.length : Int) := od_
       obtain ⟨ad155, e155, hx155_0⟩ := Kd.at_int HR0.out x9_1 p155 q155
       cases e155
       replace p155 := eq_true p155
       replace q155 := eq_true q155
       go_wp2
       go_roundg k1
       case measure => have := HK1.out; omega
       case rel => exact ⟨(wrap64 (x9_1 + 1)), y53_, H', ⟨by have := HK1.out; omega⟩, by repeat (first | exact Drawn0.refl _ | apply Drawn0.step)⟩
     ·rw [if_neg c5] at H
      exact absurd H (by simp)
    ·rw [if_neg c4] at H
     exact absurd H (by simp)
   ·rw [if_neg c3] at H
    have c3b0 : decide (x9_1 < (l0.length : Int)) = false := decide_eq_false c3
    clear c3
    obtain rfl := Option.some.inj H
    go_wp2
    go_ret
    exact ⟨by first | rfl | (simp; done) | (simp [*]; done), by repeat (first | exact Drawn0.refl _ | apply Drawn0.step)⟩
end Go.Proofs.Ytgahidilhjijiaa.PGG
