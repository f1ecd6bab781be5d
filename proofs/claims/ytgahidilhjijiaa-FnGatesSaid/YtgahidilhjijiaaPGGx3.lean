import Derived.Test.YtgahidilhjijiaaPGGx0
import Derived.Test.YtgahidilhjijiaaPGGx2
namespace Go.Proofs.Ytgahidilhjijiaa.PGG
open Go.RowKit Go.Proofs.YtgahidilhjijiaaW.PrintWords Go.Proofs.YtgahidilhjijiaaW.PrintLast Go.Proofs.YtgahidilhjijiaaW.PrintMore
attribute [local go_sem] max2_int min2_int max_two min_two max_three min_three max_four min_four   -- for this text's walks alone
set_option linter.unusedVariables false
set_option linter.unusedSimpArgs false
mutual
def impl_GoodGates.l0 : Nat → List (S69) → List (S69) → Int → Int → Option (Bool)
 | 0, _, _, _, _ => none
 | k + 1, x0, x6, x7, x8 => if x8 < x7 then (if 0 ≤ x8 then (if x8 < (x6.length : Int) then (if ((rd_T69 x6 x8).f0) = 1 then (if ((rd_T69 x6 x8).f1) = 0 then (if (((rd_T69 x6 x8).f2) = 0) then (impl_GoodGates.l0 k x0 x6 x7 (wrap64 (x8 + 1))) else (some false)) else (some false)) else (if ((rd_T69 x6 x8).f0) = 2 then ((impl_in.f ((rd_T69 x6 x8).f1) 0 (wrap64 (x8 - 1))).bind fun t183 => (if t183 = true then (if (((rd_T69 x6 x8).f2) = 0) then (impl_GoodGates.l0 k x0 x6 x7 (wrap64 (x8 + 1))) else (some false)) else (some false))) else (if ((rd_T69 x6 x8).f0) = 3 then (impl_GoodGates.j1 k x0 x8 false x6 x7 x8 (((rd_T69 x6 x8).f0) == 3) ((rd_T69 x6 x8).f0) ((rd_T69 x6 x8).f1) ((rd_T69 x6 x8).f2)) else (if ((rd_T69 x6 x8).f0) = 4 then (impl_GoodGates.j1 k x0 x8 false x6 x7 x8 (((rd_T69 x6 x8).f0) == 4) ((rd_T69 x6 x8).f0) ((rd_T69 x6 x8).f1) ((rd_T69 x6 x8).f2)) else (impl_GoodGates.j1 k x0 x8 false x6 x7 x8 (((rd_T69 x6 x8).f0) == 5) ((rd_T69 x6 x8).f0) ((rd_T69 x6 x8).f1) ((rd_T69 x6 x8).f2)))))) else (none)) else (none)) else ((impl_in.f (x0.length : Int) 1 12).bind fun t180 => (some t180))
def impl_GoodGates.j1 : Nat → List (S69) → Int → Bool → List (S69) → Int → Int → Bool → Int → Int → Int → Option (Bool)
 | 0, _, _, _, _, _, _, _, _, _, _ => none
 | k + 1, x0, x3, x5, x6, x7, x8, x37, x183000, x183001, x183002 => if x37 = true then ((impl_in.f x183001 0 (wrap64 (x3 - 1))).bind fun t184 => (if t184 = true then ((impl_in.f x183002 0 (wrap64 (x3 - 1))).bind fun t185 => (if t185 = true then (impl_GoodGates.l0 k x0 x6 x7 (wrap64 (x8 + 1))) else (some false))) else (some false))) else (if x5 = true then (impl_GoodGates.l0 k x0 x6 x7 (wrap64 (x8 + 1))) else (some false))
end
def impl_GoodGates.f (k : Nat) (l0 : List (S69)) : Option (Bool) := impl_GoodGates.l0 k l0 l0 (l0.length : Int) 0
set_option maxHeartbeats 8000000 in
set_option maxRecDepth 100000 in
theorem impl_GoodGates.calls (k : Nat) (A0 : Option Addr) (c0 : Nat) (l0 : List (S69)) (r : Bool) (w : World) (hr0 : Kd.C k69 w A0 l0.length l0) (hc0 : l0.length ≤ c0) (h : impl_GoodGates.f k l0 = some r) :
  Calls Try.prog 34 #[.slice A0 l0.length c0] w fun e w' => e = .returned (.bool r) ∧ Below w.heap.size w w' := by
 have hu69 := Try.underlying69
 have HR0 := am_ hr0
 have HC0 := am_ hc0
 clear hr0 hc0
 have HB := am_ (Below.refl w.heap.size w)
 have H : (impl_GoodGates.l0 k l0 l0 (l0.length : Int) 0) = some r := h
 clear h
 have H' := am_ H
 clear H
 go_enter Try.func34, Try.ntmps34
 go_wp2
 go_loopg [8] k (fun kq v8 w' => ∃ (x8_1 : Int), v8 = .int .i64 x8_1 ∧ Aside0 (impl_GoodGates.l0 kq l0 l0 (l0.length : Int) x8_1 = some r) ∧ Aside0 (kq ≤ k) ∧ Aside0 (Below w.heap.size w w'))
 case atStart => exact ⟨(0), y53_, H', ⟨Nat.le_refl _⟩, ⟨bq_⟩⟩
 case round =>
  clear H'
  obtain ⟨x8_1, rfl, HA, HK1, HB⟩ := hrel
  cases gk with
  | zero => exact absurd HA.out (by simp [impl_GoodGates.l0])
  | succ k1 =>
   have H := HA.out
   clear HA
   simp only [impl_GoodGates.l0] at H
   by_cases c2 : x8_1 < (l0.length : Int)
   ·rw [if_pos c2] at H
    have c2b0 : decide (x8_1 < (l0.length : Int)) = true := decide_eq_true c2
    clear c2
    by_cases c3 : 0 ≤ x8_1
    ·rw [if_pos c3] at H
     have c3b0 : decide (0 ≤ x8_1) = true := decide_eq_true c3
     clear c3
     by_cases c4 : x8_1 < (l0.length : Int)
     ·rw [if_pos c4] at H
      have c4b0 : decide (x8_1 < (l0.length : Int)) = true := decide_eq_true c4
      clear c4
      by_cases c5 : ((rd_T69 l0 x8_1).f0) = 1
      ·rw [if_pos c5] at H
       have c5b0 : (((rd_T69 l0 x8_1).f0) == 1) = true := beq_iff_eq.mpr c5
       have c5b1 : (((rd_T69 l0 x8_1).f0) != 1) = false := bne_eq_false_iff_eq.mpr c5
       clear c5
       by_cases c6 : ((rd_T69 l0 x8_1).f1) = 0
       ·rw [if_pos c6] at H
        have c6b0 : (((rd_T69 l0 x8_1).f1) == 0) = true := beq_iff_eq.mpr c6
        have c6b1 : (((rd_T69 l0 x8_1).f1) != 0) = false := bne_eq_false_iff_eq.mpr c6
        clear c6
        by_cases c7 : (((rd_T69 l0 x8_1).f2) = 0)
        ·rw [if_pos c7] at H
         have c7b0 : (((rd_T69 l0 x8_1).f2) == 0) = true := beq_iff_eq.mpr c7
         have c7b1 : (((rd_T69 l0 x8_1).f2) != 0) = false := bne_eq_false_iff_eq.mpr c7
         clear c7
         have H' := am_ H
         clear H
         have p181 : 0 ≤ (x8_1 : Int) := od_
         have q181 : x8_1 < (l0.length : Int) := od_
         obtain ⟨ad181, e181, hx181_0, hx181_1, hx181_2⟩ := at_T69 HR0.out x8_1 p181 q181
         cases e181
         replace hx181_0 := (HB.out.cell (World.block_lt_of_cell? w _ hx181_0)).trans hx181_0
         replace hx181_1 := (HB.out.cell (World.block_lt_of_cell? w _ hx181_1)).trans hx181_1
         replace hx181_2 := (HB.out.cell (World.block_lt_of_cell? w _ hx181_2)).trans hx181_2
         replace p181 := eq_true p181
         replace q181 := eq_true q181
         go_wp2_with (first | ((with_reducible refine gate_dst (N := 4) rfl ?_); refine boxq_ (N := 4) (cs := #[.int .i64 0, .int .i64 0, .int .i64 0]) (t := 69) ?_; intro gb182 hg w8 hbox hb; have BK182 := am_ (hbox); have GW182 := gz_ hg; have GE182 := gz_ hg; replace HB := bs_ hb; clear hb hbox hg; have hcz9_0 := cq_ BK182.out 0 (.int .i64 0); have hcz9_1 := cq_ BK182.out 1 (.int .i64 0); have hcz9_2 := cq_ BK182.out 2 (.int .i64 0); have hfz9_0 := blk_frozen BK182.out 0; have hfz9_1 := blk_frozen BK182.out 1; have hfz9_2 := blk_frozen BK182.out 2))
         go_roundg k1
         case measure => have := HK1.out; omega
         case rel => exact ⟨(wrap64 (x8_1 + 1)), y53_, H', ⟨by have := HK1.out; omega⟩, ⟨bq_⟩⟩
        ·rw [if_neg c7] at H
         have c7b0 : (((rd_T69 l0 x8_1).f2) == 0) = false := beq_eq_false_iff_ne.mpr c7
         have c7b1 : (((rd_T69 l0 x8_1).f2) != 0) = true := bne_iff_ne.mpr c7
         obtain rfl := Option.some.inj H
         have p181 : 0 ≤ (x8_1 : Int) := od_
         have q181 : x8_1 < (l0.length : Int) := od_
         obtain ⟨ad181, e181, hx181_0, hx181_1, hx181_2⟩ := at_T69 HR0.out x8_1 p181 q181
         cases e181
         replace hx181_0 := (HB.out.cell (World.block_lt_of_cell? w _ hx181_0)).trans hx181_0
         replace hx181_1 := (HB.out.cell (World.block_lt_of_cell? w _ hx181_1)).trans hx181_1
         replace hx181_2 := (HB.out.cell (World.block_lt_of_cell? w _ hx181_2)).trans hx181_2
         replace p181 := eq_true p181
         replace q181 := eq_true q181
         go_wp2_with (first | ((with_reducible refine gate_dst (N := 4) rfl ?_); refine boxq_ (N := 4) (cs := #[.int .i64 0, .int .i64 0, .int .i64 0]) (t := 69) ?_; intro gb182 hg w10 hbox hb; have BK182 := am_ (hbox); have GW182 := gz_ hg; have GE182 := gz_ hg; replace HB := bs_ hb; clear hb hbox hg; have hcz11_0 := cq_ BK182.out 0 (.int .i64 0); have hcz11_1 := cq_ BK182.out 1 (.int .i64 0); have hcz11_2 := cq_ BK182.out 2 (.int .i64 0); have hfz11_0 := blk_frozen BK182.out 0; have hfz11_1 := blk_frozen BK182.out 1; have hfz11_2 := blk_frozen BK182.out 2))
         go_ret
         exact ⟨by first | rfl | (simp [errW_none, errW_some] <;> rfl) | (simp [*, errW_none, errW_some] <;> rfl), bq_⟩
       ·rw [if_neg c6] at H
        have c6b0 : (((rd_T69 l0 x8_1).f1) == 0) = false := beq_eq_false_iff_ne.mpr c6
        have c6b1 : (((rd_T69 l0 x8_1).f1) != 0) = true := bne_iff_ne.mpr c6
        obtain rfl := Option.some.inj H
        have p181 : 0 ≤ (x8_1 : Int) := od_
        have q181 : x8_1 < (l0.length : Int) := od_
        obtain ⟨ad181, e181, hx181_0, hx181_1, hx181_2⟩ := at_T69 HR0.out x8_1 p181 q181
        cases e181
        replace hx181_0 := (HB.out.cell (World.block_lt_of_cell? w _ hx181_0)).trans hx181_0
        replace hx181_1 := (HB.out.cell (World.block_lt_of_cell? w _ hx181_1)).trans hx181_1
        replace hx181_2 := (HB.out.cell (World.block_lt_of_cell? w _ hx181_2)).trans hx181_2
        replace p181 := eq_true p181
        replace q181 := eq_true q181
        go_wp2_with (first | ((with_reducible refine gate_dst (N := 4) rfl ?_); refine boxq_ (N := 4) (cs := #[.int .i64 0, .int .i64 0, .int .i64 0]) (t := 69) ?_; intro gb182 hg w12 hbox hb; have BK182 := am_ (hbox); have GW182 := gz_ hg; have GE182 := gz_ hg; replace HB := bs_ hb; clear hb hbox hg; have hcz13_0 := cq_ BK182.out 0 (.int .i64 0); have hcz13_1 := cq_ BK182.out 1 (.int .i64 0); have hcz13_2 := cq_ BK182.out 2 (.int .i64 0); have hfz13_0 := blk_frozen BK182.out 0; have hfz13_1 := blk_frozen BK182.out 1; have hfz13_2 := blk_frozen BK182.out 2))
        go_ret
        exact ⟨by first | rfl | (simp [errW_none, errW_some] <;> rfl) | (simp [*, errW_none, errW_some] <;> rfl), bq_⟩
      ·rw [if_neg c5] at H
       have c5b0 : (((rd_T69 l0 x8_1).f0) == 1) = false := beq_eq_false_iff_ne.mpr c5
       have c5b1 : (((rd_T69 l0 x8_1).f0) != 1) = true := bne_iff_ne.mpr c5
       by_cases c14 : ((rd_T69 l0 x8_1).f0) = 2
       ·rw [if_pos c14] at H
        have c14b0 : (((rd_T69 l0 x8_1).f0) == 2) = true := beq_iff_eq.mpr c14
        have c14b1 : (((rd_T69 l0 x8_1).f0) != 2) = false := bne_eq_false_iff_eq.mpr c14
        clear c14
        replace H := Option.bind_eq_some_iff.mp H
        obtain ⟨t183, A150, H⟩ := H
        replace H : (if t183 = true then (if (((rd_T69 l0 x8_1).f2) = 0) then (impl_GoodGates.l0 k1 l0 l0 (l0.length : Int) (wrap64 (x8_1 + 1))) else (some false)) else (some false)) = some r := H
        have A15 := am_ A150
        clear A150
        by_cases c16 : t183 = true
        ·subst c16
         have H1 : (if (((rd_T69 l0 x8_1).f2) = 0) then (impl_GoodGates.l0 k1 l0 l0 (l0.length : Int) (wrap64 (x8_1 + 1))) else (some false)) = some r := by rw [if_pos rfl] at H; exact H
         clear H
         have H := H1
         clear H1
         by_cases c17 : (((rd_T69 l0 x8_1).f2) = 0)
         ·rw [if_pos c17] at H
          have c17b0 : (((rd_T69 l0 x8_1).f2) == 0) = true := beq_iff_eq.mpr c17
          have c17b1 : (((rd_T69 l0 x8_1).f2) != 0) = false := bne_eq_false_iff_eq.mpr c17
          clear c17
          have H' := am_ H
          clear H
          have p181 : 0 ≤ (x8_1 : Int) := od_
          have q181 : x8_1 < (l0.length : Int) := od_
          obtain ⟨ad181, e181, hx181_0, hx181_1, hx181_2⟩ := at_T69 HR0.out x8_1 p181 q181
          cases e181
          replace hx181_0 := (HB.out.cell (World.block_lt_of_cell? w _ hx181_0)).trans hx181_0
          replace hx181_1 := (HB.out.cell (World.block_lt_of_cell? w _ hx181_1)).trans hx181_1
          replace hx181_2 := (HB.out.cell (World.block_lt_of_cell? w _ hx181_2)).trans hx181_2
          replace p181 := eq_true p181
          replace q181 := eq_true q181
          go_wp2_with (first | ((with_reducible refine gate_dst (N := 4) rfl ?_); refine boxq_ (N := 4) (cs := #[.int .i64 0, .int .i64 0, .int .i64 0]) (t := 69) ?_; intro gb182 hg w18 hbox hb; have BK182 := am_ (hbox); have GW182 := gz_ hg; have GE182 := gz_ hg; replace HB := bs_ hb; clear hb hbox hg; have hcz19_0 := cq_ BK182.out 0 (.int .i64 0); have hcz19_1 := cq_ BK182.out 1 (.int .i64 0); have hcz19_2 := cq_ BK182.out 2 (.int .i64 0); have hfz19_0 := blk_frozen BK182.out 0; have hfz19_1 := blk_frozen BK182.out 1; have hfz19_2 := blk_frozen BK182.out 2) | ((with_reducible refine gl_ 44 rfl ?_); refine goesM_ (some 31) Try.func44 #[.int .i64 ((rd_T69 l0 x8_1).f1), .int .i64 0, .int .i64 (wrap64 (x8_1 - 1))] ?_; (with_reducible refine (impl_in.calls ((rd_T69 l0 x8_1).f1) 0 (wrap64 (x8_1 - 1)) true _ A15.out).mono ?_); rintro e w' ⟨rfl, ⟨nd, rfl⟩⟩; refine ⟨_, rfl, ?_⟩))
          go_roundg k1
          case measure => have := HK1.out; omega
          case rel => exact ⟨(wrap64 (x8_1 + 1)), y53_, H', ⟨by have := HK1.out; omega⟩, ⟨bq_⟩⟩
         ·rw [if_neg c17] at H
          have c17b0 : (((rd_T69 l0 x8_1).f2) == 0) = false := beq_eq_false_iff_ne.mpr c17
          have c17b1 : (((rd_T69 l0 x8_1).f2) != 0) = true := bne_iff_ne.mpr c17
          obtain rfl := Option.some.inj H
          have p181 : 0 ≤ (x8_1 : Int) := od_
          have q181 : x8_1 < (l0.length : Int) := od_
          obtain ⟨ad181, e181, hx181_0, hx181_1, hx181_2⟩ := at_T69 HR0.out x8_1 p181 q181
          cases e181
          replace hx181_0 := (HB.out.cell (World.block_lt_of_cell? w _ hx181_0)).trans hx181_0
          replace hx181_1 := (HB.out.cell (World.block_lt_of_cell? w _ hx181_1)).trans hx181_1
          replace hx181_2 := (HB.out.cell (World.block_lt_of_cell? w _ hx181_2)).trans hx181_2
          replace p181 := eq_true p181
          replace q181 := eq_true q181
          go_wp2_with (first | ((with_reducible refine gate_dst (N := 4) rfl ?_); refine boxq_ (N := 4) (cs := #[.int .i64 0, .int .i64 0, .int .i64 0]) (t := 69) ?_; intro gb182 hg w20 hbox hb; have BK182 := am_ (hbox); have GW182 := gz_ hg; have GE182 := gz_ hg; replace HB := bs_ hb; clear hb hbox hg; have hcz21_0 := cq_ BK182.out 0 (.int .i64 0); have hcz21_1 := cq_ BK182.out 1 (.int .i64 0); have hcz21_2 := cq_ BK182.out 2 (.int .i64 0); have hfz21_0 := blk_frozen BK182.out 0; have hfz21_1 := blk_frozen BK182.out 1; have hfz21_2 := blk_frozen BK182.out 2) | ((with_reducible refine gl_ 44 rfl ?_); refine goesM_ (some 31) Try.func44 #[.int .i64 ((rd_T69 l0 x8_1).f1), .int .i64 0, .int .i64 (wrap64 (x8_1 - 1))] ?_; (with_reducible refine (impl_in.calls ((rd_T69 l0 x8_1).f1) 0 (wrap64 (x8_1 - 1)) true _ A15.out).mono ?_); rintro e w' ⟨rfl, ⟨nd, rfl⟩⟩; refine ⟨_, rfl, ?_⟩))
          go_ret
          exact ⟨by first | rfl | (simp [errW_none, errW_some] <;> rfl) | (simp [*, errW_none, errW_some] <;> rfl), bq_⟩
        ·replace c16 := Bool.eq_false_iff.mpr c16
         subst c16
         have H1 : (some false) = some r := by rw [if_neg (show ¬ (false = true) by decide)] at H; exact H
         clear H
         have H := H1
         clear H1
         obtain rfl := Option.some.inj H
         have p181 : 0 ≤ (x8_1 : Int) := od_
         have q181 : x8_1 < (l0.length : Int) := od_
         obtain ⟨ad181, e181, hx181_0, hx181_1, hx181_2⟩ := at_T69 HR0.out x8_1 p181 q181
         cases e181
         replace hx181_0 := (HB.out.cell (World.block_lt_of_cell? w _ hx181_0)).trans hx181_0
         replace hx181_1 := (HB.out.cell (World.block_lt_of_cell? w _ hx181_1)).trans hx181_1
         replace hx181_2 := (HB.out.cell (World.block_lt_of_cell? w _ hx181_2)).trans hx181_2
         replace p181 := eq_true p181
         replace q181 := eq_true q181
         go_wp2_with (first | ((with_reducible refine gate_dst (N := 4) rfl ?_); refine boxq_ (N := 4) (cs := #[.int .i64 0, .int .i64 0, .int .i64 0]) (t := 69) ?_; intro gb182 hg w22 hbox hb; have BK182 := am_ (hbox); have GW182 := gz_ hg; have GE182 := gz_ hg; replace HB := bs_ hb; clear hb hbox hg; have hcz23_0 := cq_ BK182.out 0 (.int .i64 0); have hcz23_1 := cq_ BK182.out 1 (.int .i64 0); have hcz23_2 := cq_ BK182.out 2 (.int .i64 0); have hfz23_0 := blk_frozen BK182.out 0; have hfz23_1 := blk_frozen BK182.out 1; have hfz23_2 := blk_frozen BK182.out 2) | ((with_reducible refine gl_ 44 rfl ?_); refine goesM_ (some 31) Try.func44 #[.int .i64 ((rd_T69 l0 x8_1).f1), .int .i64 0, .int .i64 (wrap64 (x8_1 - 1))] ?_; (with_reducible refine (impl_in.calls ((rd_T69 l0 x8_1).f1) 0 (wrap64 (x8_1 - 1)) false _ A15.out).mono ?_); rintro e w' ⟨rfl, ⟨nd, rfl⟩⟩; refine ⟨_, rfl, ?_⟩))
         go_ret
         exact ⟨by first | rfl | (simp [errW_none, errW_some] <;> rfl) | (simp [*, errW_none, errW_some] <;> rfl), bq_⟩
       ·rw [if_neg c14] at H
        have c14b0 : (((rd_T69 l0 x8_1).f0) == 2) = false := beq_eq_false_iff_ne.mpr c14
        have c14b1 : (((rd_T69 l0 x8_1).f0) != 2) = true := bne_iff_ne.mpr c14
        have HC24 := am_ H
        clear H
        have p181 : 0 ≤ (x8_1 : Int) := od_
        have q181 : x8_1 < (l0.length : Int) := od_
        obtain ⟨ad181, e181, hx181_0, hx181_1, hx181_2⟩ := at_T69 HR0.out x8_1 p181 q181
        cases e181
        replace hx181_0 := (HB.out.cell (World.block_lt_of_cell? w _ hx181_0)).trans hx181_0
        replace hx181_1 := (HB.out.cell (World.block_lt_of_cell? w _ hx181_1)).trans hx181_1
        replace hx181_2 := (HB.out.cell (World.block_lt_of_cell? w _ hx181_2)).trans hx181_2
        replace p181 := eq_true p181
        replace q181 := eq_true q181
        go_upto_if 37 with (first | ((with_reducible refine gate_dst (N := 4) rfl ?_); refine boxq_ (N := 4) (cs := #[.int .i64 0, .int .i64 0, .int .i64 0]) (t := 69) ?_; intro gb182 hg w25 hbox hb; have BK182 := am_ (hbox); have GW182 := gz_ hg; have GE182 := gz_ hg; replace HB := bs_ hb; clear hb hbox hg; have hcz26_0 := cq_ BK182.out 0 (.int .i64 0); have hcz26_1 := cq_ BK182.out 1 (.int .i64 0); have hcz26_2 := cq_ BK182.out 2 (.int .i64 0); have hfz26_0 := blk_frozen BK182.out 0; have hfz26_1 := blk_frozen BK182.out 1; have hfz26_2 := blk_frozen BK182.out 2))
        (try simp only [Act.put, List.setIfInBounds_toArray, List.set_cons_zero, List.set_cons_succ])
        go_cut [37] (fun v37 wc => ∃ (kq : Nat) (x37_23 : Bool), v37 = .bool x37_23 ∧ Aside0 (impl_GoodGates.j1 kq l0 x8_1 false l0 (l0.length : Int) x8_1 x37_23 ((rd_T69 l0 x8_1).f0) ((rd_T69 l0 x8_1).f1) ((rd_T69 l0 x8_1).f2) = some r) ∧ Aside0 (kq ≤ k1) ∧ Aside0 (wc.heap[gb182]? = some (.cells #[.int .i64 ((rd_T69 l0 x8_1).f0), .int .i64 ((rd_T69 l0 x8_1).f1), .int .i64 ((rd_T69 l0 x8_1).f2)] 69 (0, 0))) ∧ Aside0 (Below w.heap.size w wc))
        case first =>
         have H := HC24.out
         clear HC24
         by_cases c27 : ((rd_T69 l0 x8_1).f0) = 3
         ·rw [if_pos c27] at H
          have c27b0 : (((rd_T69 l0 x8_1).f0) == 3) = true := beq_iff_eq.mpr c27
          have c27b1 : (((rd_T69 l0 x8_1).f0) != 3) = false := bne_eq_false_iff_eq.mpr c27
          clear c27
          (first | rw [c27b0] | (simp only [i64_w, i32_w]; rw [c27b0]) | skip)
          have H' := am_ H
          clear H
          go_wp2
          go_meet
          case rel => exact ⟨_, ((((rd_T69 l0 x8_1).f0) == 3)), y53_, H', ⟨by have := HK1.out; first | omega | exact Nat.le_refl _⟩, ⟨by (with_reducible repeat (first | refine blk_drewN ?_ _ | refine blk_drew ?_ | refine blk_alloc ?_ _)); refine blk_put (cs := #[.int .i64 ((rd_T69 l0 x8_1).f0), .int .i64 ((rd_T69 l0 x8_1).f1), .int .i64 0]) ?_ 2 _ rfl; (with_reducible repeat (first | refine blk_drewN ?_ _ | refine blk_drew ?_ | refine blk_alloc ?_ _)); refine blk_put (cs := #[.int .i64 ((rd_T69 l0 x8_1).f0), .int .i64 0, .int .i64 0]) ?_ 1 _ rfl; (with_reducible repeat (first | refine blk_drewN ?_ _ | refine blk_drew ?_ | refine blk_alloc ?_ _)); refine blk_put (cs := #[.int .i64 0, .int .i64 0, .int .i64 0]) ?_ 0 _ rfl; (with_reducible repeat (first | refine blk_drewN ?_ _ | refine blk_drew ?_ | refine blk_alloc ?_ _)); exact BK182.out⟩, ⟨bq_⟩⟩
         ·rw [if_neg c27] at H
          have c27b0 : (((rd_T69 l0 x8_1).f0) == 3) = false := beq_eq_false_iff_ne.mpr c27
          have c27b1 : (((rd_T69 l0 x8_1).f0) != 3) = true := bne_iff_ne.mpr c27
          (first | rw [c27b0] | (simp only [i64_w, i32_w]; rw [c27b0]) | skip)
          by_cases c28 : ((rd_T69 l0 x8_1).f0) = 4
          ·rw [if_pos c28] at H
           have c28b0 : (((rd_T69 l0 x8_1).f0) == 4) = true := beq_iff_eq.mpr c28
           have c28b1 : (((rd_T69 l0 x8_1).f0) != 4) = false := bne_eq_false_iff_eq.mpr c28
           clear c28
           have H' := am_ H
           clear H
           go_wp2
           go_meet
           case rel => exact ⟨_, ((((rd_T69 l0 x8_1).f0) == 4)), y53_, H', ⟨by have := HK1.out; first | omega | exact Nat.le_refl _⟩, ⟨by (with_reducible repeat (first | refine blk_drewN ?_ _ | refine blk_drew ?_ | refine blk_alloc ?_ _)); refine blk_put (cs := #[.int .i64 ((rd_T69 l0 x8_1).f0), .int .i64 ((rd_T69 l0 x8_1).f1), .int .i64 0]) ?_ 2 _ rfl; (with_reducible repeat (first | refine blk_drewN ?_ _ | refine blk_drew ?_ | refine blk_alloc ?_ _)); refine blk_put (cs := #[.int .i64 ((rd_T69 l0 x8_1).f0), .int .i64 0, .int .i64 0]) ?_ 1 _ rfl; (with_reducible repeat (first | refine blk_drewN ?_ _ | refine blk_drew ?_ | refine blk_alloc ?_ _)); refine blk_put (cs := #[.int .i64 0, .int .i64 0, .int .i64 0]) ?_ 0 _ rfl; (with_reducible repeat (first | refine blk_drewN ?_ _ | refine blk_drew ?_ | refine blk_alloc ?_ _)); exact BK182.out⟩, ⟨bq_⟩⟩
          ·rw [if_neg c28] at H
           have c28b0 : (((rd_T69 l0 x8_1).f0) == 4) = false := beq_eq_false_iff_ne.mpr c28
           have c28b1 : (((rd_T69 l0 x8_1).f0) != 4) = true := bne_iff_ne.mpr c28
           have H' := am_ H
           clear H
           go_wp2
           go_meet
           case rel => exact ⟨_, ((((rd_T69 l0 x8_1).f0) == 5)), y53_, H', ⟨by have := HK1.out; first | omega | exact Nat.le_refl _⟩, ⟨by (with_reducible repeat (first | refine blk_drewN ?_ _ | refine blk_drew ?_ | refine blk_alloc ?_ _)); refine blk_put (cs := #[.int .i64 ((rd_T69 l0 x8_1).f0), .int .i64 ((rd_T69 l0 x8_1).f1), .int .i64 0]) ?_ 2 _ rfl; (with_reducible repeat (first | refine blk_drewN ?_ _ | refine blk_drew ?_ | refine blk_alloc ?_ _)); refine blk_put (cs := #[.int .i64 ((rd_T69 l0 x8_1).f0), .int .i64 0, .int .i64 0]) ?_ 1 _ rfl; (with_reducible repeat (first | refine blk_drewN ?_ _ | refine blk_drew ?_ | refine blk_alloc ?_ _)); refine blk_put (cs := #[.int .i64 0, .int .i64 0, .int .i64 0]) ?_ 0 _ rfl; (with_reducible repeat (first | refine blk_drewN ?_ _ | refine blk_drew ?_ | refine blk_alloc ?_ _)); exact BK182.out⟩, ⟨bq_⟩⟩
        case rest =>
         clear HC24
         try clear c1
         try clear p1
         try clear q1
         try clear hx1
         try clear c2
         try clear c2b0
         try clear p2
         try clear c3
         try clear c3b0
         try clear c4
         try clear c4b0
         try clear c5
         try clear c5b0
         try clear c5b1
         try clear c6
         try clear c6b0
         try clear c6b1
         try clear p6
         try clear c7
         try clear c7b0
         try clear c7b1
         try clear c14
         try clear c14b0
         try clear c14b1
         try clear c16
         try clear c17
         try clear c17b0
         try clear c17b1
         try clear p18
         try clear q18
         try clear hx18
         try clear c27
         try clear c27b0
         try clear c27b1
         try clear c28
         try clear c28b0
         try clear c28b1
         try clear hcz11_0
         try clear hcz11_1
         try clear hcz11_2
         try clear hcz13_0
         try clear hcz13_1
         try clear hcz13_2
         try clear hcz19_0
         try clear hcz19_1
         try clear hcz19_2
         try clear hcz21_0
         try clear hcz21_1
         try clear hcz21_2
         try clear hcz23_0
         try clear hcz23_1
         try clear hcz23_2
         try clear hcz26_0
         try clear hcz26_1
         try clear hcz26_2
         try clear hcz9_0
         try clear hcz9_1
         try clear hcz9_2
         try clear hfz11_0
         try clear hfz11_1
         try clear hfz11_2
         try clear hfz13_0
         try clear hfz13_1
         try clear hfz13_2
         try clear hfz19_0
         try clear hfz19_1
         try clear hfz19_2
         try clear hfz21_0
         try clear hfz21_1
         try clear hfz21_2
         try clear hfz23_0
         try clear hfz23_1
         try clear hfz23_2
         try clear hfz26_0
         try clear hfz26_1
         try clear hfz26_2
         try clear hfz9_0
         try clear hfz9_1
         try clear hfz9_2
         try clear hx181_0
         try clear hx181_1
         try clear hx181_2
         try clear p181
         try clear q181
         obtain ⟨kq, x37_23, rfl, HA, HJ23, BK182, HB⟩ := hcut
         cases kq with
         | zero => exact absurd HA.out (by simp [impl_GoodGates.j1])
         | succ kj23 =>
          have H := HA.out
          clear HA
          simp only [impl_GoodGates.j1] at H
          by_cases c29 : x37_23 = true
          ·subst c29
           have H1 : ((impl_in.f ((rd_T69 l0 x8_1).f1) 0 (wrap64 (x8_1 - 1))).bind fun t184 => (if t184 = true then ((impl_in.f ((rd_T69 l0 x8_1).f2) 0 (wrap64 (x8_1 - 1))).bind fun t185 => (if t185 = true then (impl_GoodGates.l0 kj23 l0 l0 (l0.length : Int) (wrap64 (x8_1 + 1))) else (some false))) else (some false))) = some r := by rw [if_pos rfl] at H; exact H
           clear H
           have H := H1
           clear H1
           replace H := Option.bind_eq_some_iff.mp H
           obtain ⟨t184, A300, H⟩ := H
           replace H : (if t184 = true then ((impl_in.f ((rd_T69 l0 x8_1).f2) 0 (wrap64 (x8_1 - 1))).bind fun t185 => (if t185 = true then (impl_GoodGates.l0 kj23 l0 l0 (l0.length : Int) (wrap64 (x8_1 + 1))) else (some false))) else (some false)) = some r := H
           have A30 := am_ A300
           clear A300
           by_cases c31 : t184 = true
           ·subst c31
            have H1 : ((impl_in.f ((rd_T69 l0 x8_1).f2) 0 (wrap64 (x8_1 - 1))).bind fun t185 => (if t185 = true then (impl_GoodGates.l0 kj23 l0 l0 (l0.length : Int) (wrap64 (x8_1 + 1))) else (some false))) = some r := by rw [if_pos rfl] at H; exact H
            clear H
            have H := H1
            clear H1
            replace H := Option.bind_eq_some_iff.mp H
            obtain ⟨t185, A320, H⟩ := H
            replace H : (if t185 = true then (impl_GoodGates.l0 kj23 l0 l0 (l0.length : Int) (wrap64 (x8_1 + 1))) else (some false)) = some r := H
            have A32 := am_ A320
            clear A320
            by_cases c33 : t185 = true
            ·subst c33
             have H1 : (impl_GoodGates.l0 kj23 l0 l0 (l0.length : Int) (wrap64 (x8_1 + 1))) = some r := by rw [if_pos rfl] at H; exact H
             clear H
             have H := H1
             clear H1
             have H' := am_ H
             clear H
             have hcz34_0 := cq_ BK182.out 0 (.int .i64 ((rd_T69 l0 x8_1).f0))
             have hcz34_1 := cq_ BK182.out 1 (.int .i64 ((rd_T69 l0 x8_1).f1))
             have hcz34_2 := cq_ BK182.out 2 (.int .i64 ((rd_T69 l0 x8_1).f2))
             have hfz34_0 := blk_frozen BK182.out 0
             have hfz34_1 := blk_frozen BK182.out 1
             have hfz34_2 := blk_frozen BK182.out 2
             go_wp2_with (first | ((with_reducible refine gl_ 44 rfl ?_); refine goesM_ (some 45) Try.func44 #[.int .i64 ((rd_T69 l0 x8_1).f1), .int .i64 0, .int .i64 (wrap64 (x8_1 - 1))] ?_; (with_reducible refine (impl_in.calls ((rd_T69 l0 x8_1).f1) 0 (wrap64 (x8_1 - 1)) true _ A30.out).mono ?_); rintro e w' ⟨rfl, ⟨nd, rfl⟩⟩; refine ⟨_, rfl, ?_⟩) | (go_at_call 44; (with_reducible refine (impl_in.calls ((rd_T69 l0 x8_1).f2) 0 (wrap64 (x8_1 - 1)) true _ A32.out).mono ?_); rintro e w' ⟨rfl, ⟨nd, rfl⟩⟩))
             go_roundg kj23
             case measure => have := HK1.out; have := HJ23.out; omega
             case rel => exact ⟨(wrap64 (x8_1 + 1)), y53_, H', ⟨by have := HK1.out; have := HJ23.out; omega⟩, ⟨bq_⟩⟩
            ·replace c33 := Bool.eq_false_iff.mpr c33
             subst c33
             have H1 : (some false) = some r := by rw [if_neg (show ¬ (false = true) by decide)] at H; exact H
             clear H
             have H := H1
             clear H1
             obtain rfl := Option.some.inj H
             have hcz35_0 := cq_ BK182.out 0 (.int .i64 ((rd_T69 l0 x8_1).f0))
             have hcz35_1 := cq_ BK182.out 1 (.int .i64 ((rd_T69 l0 x8_1).f1))
             have hcz35_2 := cq_ BK182.out 2 (.int .i64 ((rd_T69 l0 x8_1).f2))
             have hfz35_0 := blk_frozen BK182.out 0
             have hfz35_1 := blk_frozen BK182.out 1
             have hfz35_2 := blk_frozen BK182.out 2
             go_wp2_with (first | ((with_reducible refine gl_ 44 rfl ?_); refine goesM_ (some 45) Try.func44 #[.int .i64 ((rd_T69 l0 x8_1).f1), .int .i64 0, .int .i64 (wrap64 (x8_1 - 1))] ?_; (with_reducible refine (impl_in.calls ((rd_T69 l0 x8_1).f1) 0 (wrap64 (x8_1 - 1)) true _ A30.out).mono ?_); rintro e w' ⟨rfl, ⟨nd, rfl⟩⟩; refine ⟨_, rfl, ?_⟩) | (go_at_call 44; (with_reducible refine (impl_in.calls ((rd_T69 l0 x8_1).f2) 0 (wrap64 (x8_1 - 1)) false _ A32.out).mono ?_); rintro e w' ⟨rfl, ⟨nd, rfl⟩⟩))
             go_ret
             exact ⟨by first | rfl | (simp [errW_none, errW_some] <;> rfl) | (simp [*, errW_none, errW_some] <;> rfl), bq_⟩
           ·replace c31 := Bool.eq_false_iff.mpr c31
            subst c31
            have H1 : (some false) = some r := by rw [if_neg (show ¬ (false = true) by decide)] at H; exact H
            clear H
            have H := H1
            clear H1
            obtain rfl := Option.some.inj H
            have hcz36_0 := cq_ BK182.out 0 (.int .i64 ((rd_T69 l0 x8_1).f0))
            have hcz36_1 := cq_ BK182.out 1 (.int .i64 ((rd_T69 l0 x8_1).f1))
            have hcz36_2 := cq_ BK182.out 2 (.int .i64 ((rd_T69 l0 x8_1).f2))
            have hfz36_0 := blk_frozen BK182.out 0
            have hfz36_1 := blk_frozen BK182.out 1
            have hfz36_2 := blk_frozen BK182.out 2
            go_wp2_with (first | ((with_reducible refine gl_ 44 rfl ?_); refine goesM_ (some 45) Try.func44 #[.int .i64 ((rd_T69 l0 x8_1).f1), .int .i64 0, .int .i64 (wrap64 (x8_1 - 1))] ?_; (with_reducible refine (impl_in.calls ((rd_T69 l0 x8_1).f1) 0 (wrap64 (x8_1 - 1)) false _ A30.out).mono ?_); rintro e w' ⟨rfl, ⟨nd, rfl⟩⟩; refine ⟨_, rfl, ?_⟩))
            go_ret
            exact ⟨by first | rfl | (simp [errW_none, errW_some] <;> rfl) | (simp [*, errW_none, errW_some] <;> rfl), bq_⟩
          ·replace c29 := Bool.eq_false_iff.mpr c29
           subst c29
           have H1 : (if false = true then (impl_GoodGates.l0 kj23 l0 l0 (l0.length : Int) (wrap64 (x8_1 + 1))) else (some false)) = some r := by rw [if_neg (show ¬ (false = true) by decide)] at H; exact H
           clear H
           have H := H1
           clear H1
           have H1 : (some false) = some r := by rw [if_neg (show ¬ (false = true) by decide)] at H; exact H
           clear H
           have H := H1
           clear H1
           obtain rfl := Option.some.inj H
           go_wp2
           go_ret
           exact ⟨by first | rfl | (simp [errW_none, errW_some] <;> rfl) | (simp [*, errW_none, errW_some] <;> rfl), bq_⟩
     ·rw [if_neg c4] at H
      exact absurd H (by simp)
    ·rw [if_neg c3] at H
     exact absurd H (by simp)
   ·rw [if_neg c2] at H
    have c2b0 : decide (x8_1 < (l0.length : Int)) = false := decide_eq_false c2
    clear c2
    replace H := Option.bind_eq_some_iff.mp H
    obtain ⟨t180, A370, H⟩ := H
    replace H : (some t180) = some r := H
    have A37 := am_ A370
    clear A370
    obtain rfl := Option.some.inj H
    go_wp2_with (first | ((with_reducible refine gl_ 44 rfl ?_); refine goesM_ (some 58) Try.func44 #[.int .i64 (l0.length : Int), .int .i64 1, .int .i64 12] ?_; (with_reducible refine (impl_in.calls (l0.length : Int) 1 12 t180 _ A37.out).mono ?_); rintro e w' ⟨rfl, ⟨nd, rfl⟩⟩; refine ⟨_, rfl, ?_⟩))
    go_ret
    exact ⟨by first | rfl | (simp [errW_none, errW_some] <;> rfl) | (simp [*, errW_none, errW_some] <;> rfl), bq_⟩
def slices_Index_int_int.l0 : Nat → List Int → Int → Int → Int → Option (Int)
 | 0, _, _, _, _ => none
 | k + 1, x0, x1, x7, x8 => if x8 < x7 then (if 0 ≤ x8 then (if x8 < (x0.length : Int) then (if x1 = (rd x0 x8) then (some x8) else (slices_Index_int_int.l0 k x0 x1 x7 (wrap64 (x8 + 1)))) else (none)) else (none)) else (some (-1))
def slices_Index_int_int.f (k : Nat) (l0 : List Int) (a1 : Int) : Option (Int) := slices_Index_int_int.l0 k l0 a1 (l0.length : Int) 0
set_option maxHeartbeats 8000000 in
set_option maxRecDepth 100000 in
theorem slices_Index_int_int.calls (k : Nat) (A0 : Option Addr) (c0 : Nat) (l0 : List Int) (a1 : Int) (r : Int) (w : World) (hr0 : Kd.C (Kd.int .i64) w A0 l0.length l0) (hc0 : l0.length ≤ c0) (h : slices_Index_int_int.f k l0 a1 = some r) :
  Calls Try.prog 95 #[.slice A0 l0.length c0, .int .i64 a1] w fun e w' => e = .returned (.int .i64 r) ∧ Drawn0 w w' := by
 have HR0 := am_ hr0
 have HC0 := am_ hc0
 clear hr0 hc0
 have H : (slices_Index_int_int.l0 k l0 a1 (l0.length : Int) 0) = some r := h
 clear h
 have H' := am_ H
 clear H
 go_enter Try.func95, Try.ntmps95
 go_wp2
 go_loopg [8] k (fun kq v8 w' => ∃ (x8_1 : Int), v8 = .int .i64 x8_1 ∧ Aside0 (slices_Index_int_int.l0 kq l0 a1 (l0.length : Int) x8_1 = some r) ∧ Aside0 (kq ≤ k) ∧ Drawn0 w w')
 case atStart => exact ⟨(0), y53_, H', ⟨Nat.le_refl _⟩, by repeat (first | exact Drawn0.refl _ | apply Drawn0.step)⟩
 case round =>
  clear H'
  try clear p2
  obtain ⟨x8_1, rfl, HA, HK1, ⟨m1, rfl⟩⟩ := hrel
  cases gk with
  | zero => exact absurd HA.out (by simp [slices_Index_int_int.l0])
  | succ k1 =>
   have H := HA.out
   clear HA
   simp only [slices_Index_int_int.l0] at H
   by_cases c3 : x8_1 < (l0.length : Int)
   ·rw [if_pos c3] at H
    have c3b0 : decide (x8_1 < (l0.length : Int)) = true := decide_eq_true c3
    clear c3
    by_cases c4 : 0 ≤ x8_1
    ·rw [if_pos c4] at H
     have c4b0 : decide (0 ≤ x8_1) = true := decide_eq_true c4
     clear c4
     by_cases c5 : x8_1 < (l0.length : Int)
     ·rw [if_pos c5] at H
      have c5b0 : decide (x8_1 < (l0.length : Int)) = true := decide_eq_true c5
      clear c5
      by_cases c6 : a1 = (rd l0 x8_1)
      ·rw [if_pos c6] at H
       have c6b0 : (a1 == (rd l0 x8_1)) = true := beq_iff_eq.mpr c6
       have c6b1 : (a1 != (rd l0 x8_1)) = false := bne_eq_false_iff_eq.mpr c6
       clear c6
       obtain rfl := Option.some.inj H
       have p186 : 0 ≤ (x8_1 : Int) := od_
       have q186 : x8_1 < (l0.length : Int) := od_
       obtain ⟨ad186, e186, hx186_0⟩ := Kd.at_int HR0.out x8_1 p186 q186
       cases e186
       replace p186 := eq_true p186
       replace q186 := eq_true q186
       go_wp2
       go_ret
       exact ⟨by first | rfl | (simp; done) | (simp [*]; done), by repeat (first | exact Drawn0.refl _ | apply Drawn0.step)⟩
      ·rw [if_neg c6] at H
       have c6b0 : (a1 == (rd l0 x8_1)) = false := beq_eq_false_iff_ne.mpr c6
       have c6b1 : (a1 != (rd l0 x8_1)) = true := bne_iff_ne.mpr c6
       have H' := am_ H
       clear H
       have p186 : 0 ≤ (x8_1 : Int) := od_
       have q186 : x8_1 < (l0.length : Int) := od_
       obtain ⟨ad186, e186, hx186_0⟩ := Kd.at_int HR0.out x8_1 p186 q186
       cases e186
       replace p186 := eq_true p186
       replace q186 := eq_true q186
       go_wp2
       go_roundg k1
       case measure => have := HK1.out; omega
       case rel => exact ⟨(wrap64 (x8_1 + 1)), y53_, H', ⟨by have := HK1.out; omega⟩, by repeat (first | exact Drawn0.refl _ | apply Drawn0.step)⟩
     ·rw [if_neg c5] at H
      exact absurd H (by simp)
    ·rw [if_neg c4] at H
     exact absurd H (by simp)
   ·rw [if_neg c3] at H
    have c3b0 : decide (x8_1 < (l0.length : Int)) = false := decide_eq_false c3
    clear c3
    obtain rfl := Option.some.inj H
    go_wp2
    go_ret
    exact ⟨by first | rfl | (simp; done) | (simp [*]; done), by repeat (first | exact Drawn0.refl _ | apply Drawn0.step)⟩
def slices_Contains_int_int.f (k : Nat) (l0 : List Int) (a1 : Int) : Option (Bool) := (slices_Index_int_int.f k l0 a1).bind fun t187 => (some (decide (t187 ≥ 0)))
set_option maxHeartbeats 8000000 in
set_option maxRecDepth 100000 in
theorem slices_Contains_int_int.calls (k : Nat) (A0 : Option Addr) (c0 : Nat) (l0 : List Int) (a1 : Int) (r : Bool) (w : World) (hr0 : Kd.C (Kd.int .i64) w A0 l0.length l0) (hc0 : l0.length ≤ c0) (h : slices_Contains_int_int.f k l0 a1 = some r) :
  Calls Try.prog 87 #[.slice A0 l0.length c0, .int .i64 a1] w fun e w' => e = .returned (.bool r) ∧ Drawn0 w w' := by
 have HR0 := am_ hr0
 have HC0 := am_ hc0
 clear hr0 hc0
 have H : ((slices_Index_int_int.f k l0 a1).bind fun t187 => (some (decide (t187 ≥ 0)))) = some r := h
 clear h
 replace H := Option.bind_eq_some_iff.mp H
 obtain ⟨t187, A30, H⟩ := H
 replace H : (some (decide (t187 ≥ 0))) = some r := H
 have A3 := am_ A30
 clear A30
 obtain rfl := Option.some.inj H
 go_enter Try.func87, Try.ntmps87
 go_wp2_with (first | ((with_reducible refine gl_ 95 rfl ?_); refine goesM_ (some 7) Try.func95 #[.slice A0 l0.length c0, .int .i64 a1] ?_; (with_reducible refine (slices_Index_int_int.calls k _ _ l0 a1 t187 _ ?side1 ?side2 A3.out).mono ?_); (case side1 => exact cm_ HR0.out); (case side2 => exact HC0.out); rintro e w' ⟨rfl, ⟨nd, rfl⟩⟩; refine ⟨_, rfl, ?_⟩))
 go_ret
 exact ⟨by first | rfl | (simp; done) | (simp [*]; done), by repeat (first | exact Drawn0.refl _ | apply Drawn0.step)⟩
def impl_clean.l0 : Nat → List Int → List Int → Int → Int → Option (List Int × Bool)
 | 0, _, _, _, _ => none
 | k + 1, x4, x7, x8, x9 => if x9 < x8 then (if 0 ≤ x9 then (if x9 < (x7.length : Int) then ((slices_Contains_int_int.f k x4 (wrap64 (-(rd x7 x9)))).bind fun t189 => (if t189 = true then (some (([] : List Int), false)) else ((slices_Contains_int_int.f k x4 (rd x7 x9)).bind fun t190 => (if t190 = true then (impl_clean.l0 k x4 x7 x8 (wrap64 (x9 + 1))) else (if x4.length < 17592186044416 then (impl_clean.l0 k (x4 ++ [rd x7 x9]) x7 x8 (wrap64 (x9 + 1))) else (none)))))) else (none)) else (none)) else (some (x4, true))
def impl_clean.f (k : Nat) (l0 : List Int) : Option (List Int × Bool) := impl_clean.l0 k ([] : List Int) l0 (l0.length : Int) 0
set_option maxHeartbeats 8000000 in
set_option maxRecDepth 100000 in
theorem impl_clean.calls (k : Nat) (A0 : Option Addr) (c0 : Nat) (l0 : List Int) (r1 : List Int) (r2 : Bool) (w : World) (hr0 : Kd.C (Kd.int .i64) w A0 l0.length l0) (hc0 : l0.length ≤ c0) (h : impl_clean.f k l0 = some (r1, r2)) :
  Calls Try.prog 72 #[.slice A0 l0.length c0] w fun e w' => ∃ v0_ : Value, e = .returned (.tuple #[v0_, .bool r2]) ∧ Kd.R (Kd.int .i64) 3 w' w.heap.size (fun _ => True) v0_ r1 ∧ Below w.heap.size w w' := by
 have HR0 := am_ hr0
 have HC0 := am_ hc0
 clear hr0 hc0
 have HB := am_ (Below.refl w.heap.size w)
 have H : (impl_clean.l0 k ([] : List Int) l0 (l0.length : Int) 0) = some (r1, r2) := h
 clear h
 have H' := am_ H
 clear H
 go_enter Try.func72, Try.ntmps72
 go_wp2
 go_loopg [4, 9] k (fun kq v4 v9 w' => ∃ (x4_1 : List Int) (x9_1 : Int), v9 = .int .i64 x9_1 ∧ Aside0 (impl_clean.l0 kq x4_1 l0 (l0.length : Int) x9_1 = some (r1, r2)) ∧ Aside0 (kq ≤ k) ∧ Aside0 (Kd.R (Kd.int .i64) 3 w' w.heap.size (fun _ => True) v4 x4_1) ∧ Aside0 (Below w.heap.size w w'))
 case atStart => exact ⟨(([] : List Int)), (0), y53_, H', ⟨Nat.le_refl _⟩, ⟨by first | exact Kd.R_nil _ _ _ _ _ | exact Kd.N_nil _ _ _ _ _ | exact Kd.V_nil _ _ _ _ _ | exact Kd.Q_nil _ _ _ _ _ | exact Kd.S_nil _ _ _ _ _⟩, ⟨bq_⟩⟩
 case round =>
  clear H'
  obtain ⟨x4_1, x9_1, rfl, HA, HK1, HO_4, HB⟩ := hrel
  cases gk with
  | zero => exact absurd HA.out (by simp [impl_clean.l0])
  | succ k1 =>
   have H := HA.out
   clear HA
   simp only [impl_clean.l0] at H
   by_cases c2 : x9_1 < (l0.length : Int)
   ·rw [if_pos c2] at H
    have c2b0 : decide (x9_1 < (l0.length : Int)) = true := decide_eq_true c2
    clear c2
    by_cases c3 : 0 ≤ x9_1
    ·rw [if_pos c3] at H
     have c3b0 : decide (0 ≤ x9_1) = true := decide_eq_true c3
     clear c3
     by_cases c4 : x9_1 < (l0.length : Int)
     ·rw [if_pos c4] at H
      have c4b0 : decide (x9_1 < (l0.length : Int)) = true := decide_eq_true c4
      clear c4
      replace H := Option.bind_eq_some_iff.mp H
      obtain ⟨t189, A50, H⟩ := H
      replace H : (if t189 = true then (some (([] : List Int), false)) else ((slices_Contains_int_int.f k1 x4_1 (rd l0 x9_1)).bind fun t190 => (if t190 = true then (impl_clean.l0 k1 x4_1 l0 (l0.length : Int) (wrap64 (x9_1 + 1))) else (if x4_1.length < 17592186044416 then (impl_clean.l0 k1 (x4_1 ++ [rd l0 x9_1]) l0 (l0.length : Int) (wrap64 (x9_1 + 1))) else (none))))) = some (r1, r2) := H
      have A5 := am_ A50
      clear A50
      by_cases c6 : t189 = true
      ·subst c6
       have H1 : (some (([] : List Int), false)) = some (r1, r2) := by rw [if_pos rfl] at H; exact H
       clear H
       have H := H1
       clear H1
       simp only [Option.some.injEq, Prod.mk.injEq] at H
       obtain ⟨rfl, rfl⟩ := H
       have p188 : 0 ≤ (x9_1 : Int) := od_
       have q188 : x9_1 < (l0.length : Int) := od_
       obtain ⟨ad188, e188, hx188_0⟩ := Kd.at_int HR0.out x9_1 p188 q188
       cases e188
       replace hx188_0 := (HB.out.cell (World.block_lt_of_cell? w _ hx188_0)).trans hx188_0
       replace p188 := eq_true p188
       replace q188 := eq_true q188
       obtain ⟨Ao7, co7, eo7⟩ := Kd.R_slice HO_4.out
       subst eo7
       go_wp2_with (first | ((with_reducible refine gl_ 87 rfl ?_); refine goesM_ (some 16) Try.func87 #[.slice Ao7 x4_1.length co7, .int .i64 (wrap64 (-(rd l0 x9_1)))] ?_; (with_reducible refine (slices_Contains_int_int.calls k1 _ _ x4_1 (wrap64 (-(rd l0 x9_1))) true _ ?side1 ?side2 A5.out).mono ?_); (case side1 => exact cm_ (Kd.R_reads' HO_4.out).2.2); (case side2 => exact (Kd.R_reads' HO_4.out).2.1); rintro e w' ⟨rfl, ⟨nd, rfl⟩⟩; refine ⟨_, rfl, ?_⟩))
       go_ret2
       exact ⟨_, by first | rfl | (simp [errW_none, errW_some] <;> rfl) | (simp [*, errW_none, errW_some] <;> rfl), by first | exact Kd.R_nil _ _ _ _ _ | exact Kd.N_nil _ _ _ _ _ | exact Kd.V_nil _ _ _ _ _ | exact Kd.Q_nil _ _ _ _ _ | exact Kd.S_nil _ _ _ _ _, bq_⟩
      ·replace c6 := Bool.eq_false_iff.mpr c6
       subst c6
       have H1 : ((slices_Contains_int_int.f k1 x4_1 (rd l0 x9_1)).bind fun t190 => (if t190 = true then (impl_clean.l0 k1 x4_1 l0 (l0.length : Int) (wrap64 (x9_1 + 1))) else (if x4_1.length < 17592186044416 then (impl_clean.l0 k1 (x4_1 ++ [rd l0 x9_1]) l0 (l0.length : Int) (wrap64 (x9_1 + 1))) else (none)))) = some (r1, r2) := by rw [if_neg (show ¬ (false = true) by decide)] at H; exact H
       clear H
       have H := H1
       clear H1
       replace H := Option.bind_eq_some_iff.mp H
       obtain ⟨t190, A80, H⟩ := H
       replace H : (if t190 = true then (impl_clean.l0 k1 x4_1 l0 (l0.length : Int) (wrap64 (x9_1 + 1))) else (if x4_1.length < 17592186044416 then (impl_clean.l0 k1 (x4_1 ++ [rd l0 x9_1]) l0 (l0.length : Int) (wrap64 (x9_1 + 1))) else (none))) = some (r1, r2) := H
       have A8 := am_ A80
       clear A80
       by_cases c9 : t190 = true
       ·subst c9
        have H1 : (impl_clean.l0 k1 x4_1 l0 (l0.length : Int) (wrap64 (x9_1 + 1))) = some (r1, r2) := by rw [if_pos rfl] at H; exact H
        clear H
        have H := H1
        clear H1
        have H' := am_ H
        clear H
        have p188 : 0 ≤ (x9_1 : Int) := od_
        have q188 : x9_1 < (l0.length : Int) := od_
        obtain ⟨ad188, e188, hx188_0⟩ := Kd.at_int HR0.out x9_1 p188 q188
        cases e188
        replace hx188_0 := (HB.out.cell (World.block_lt_of_cell? w _ hx188_0)).trans hx188_0
        replace p188 := eq_true p188
        replace q188 := eq_true q188
        obtain ⟨Ao10, co10, eo10⟩ := Kd.R_slice HO_4.out
        subst eo10
        go_wp2_with (first | ((with_reducible refine gl_ 87 rfl ?_); refine goesM_ (some 16) Try.func87 #[.slice Ao10 x4_1.length co10, .int .i64 (wrap64 (-(rd l0 x9_1)))] ?_; (with_reducible refine (slices_Contains_int_int.calls k1 _ _ x4_1 (wrap64 (-(rd l0 x9_1))) false _ ?side1 ?side2 A5.out).mono ?_); (case side1 => exact cm_ (Kd.R_reads' HO_4.out).2.2); (case side2 => exact (Kd.R_reads' HO_4.out).2.1); rintro e w' ⟨rfl, ⟨nd, rfl⟩⟩; refine ⟨_, rfl, ?_⟩) | ((with_reducible refine gl_ 87 rfl ?_); refine goesM_ (some 19) Try.func87 #[.slice Ao10 x4_1.length co10, .int .i64 (rd l0 x9_1)] ?_; (with_reducible refine (slices_Contains_int_int.calls k1 _ _ x4_1 (rd l0 x9_1) true _ ?side1 ?side2 A8.out).mono ?_); (case side1 => exact cm_ (Kd.R_reads' HO_4.out).2.2); (case side2 => exact (Kd.R_reads' HO_4.out).2.1); rintro e w' ⟨rfl, ⟨nd, rfl⟩⟩; refine ⟨_, rfl, ?_⟩))
        go_roundg k1
        case measure => have := HK1.out; omega
        case rel => exact ⟨(x4_1), (wrap64 (x9_1 + 1)), y53_, H', ⟨by have := HK1.out; omega⟩, ⟨rq_ HO_4.out⟩, ⟨bq_⟩⟩
       ·replace c9 := Bool.eq_false_iff.mpr c9
        subst c9
        have H1 : (if x4_1.length < 17592186044416 then (impl_clean.l0 k1 (x4_1 ++ [rd l0 x9_1]) l0 (l0.length : Int) (wrap64 (x9_1 + 1))) else (none)) = some (r1, r2) := by rw [if_neg (show ¬ (false = true) by decide)] at H; exact H
        clear H
        have H := H1
        clear H1
        by_cases c11 : x4_1.length < 17592186044416
        ·rw [if_pos c11] at H
         have LMc11 := am_ c11
         clear c11
         obtain ⟨y191, hy191⟩ : ∃ y_ : List Int, y_ = (x4_1 ++ [rd l0 x9_1]) := ⟨_, rfl⟩
         replace H : (impl_clean.l0 k1 y191 l0 (l0.length : Int) (wrap64 (x9_1 + 1))) = some (r1, r2) := by first | (rw [hy191]; with_reducible exact H) | (have H2_ := (Option.bind_some _ _).symm.trans H; rw [hy191]; with_reducible exact H2_) | (have H2_ := (Option.bind_some _ _).symm.trans H; with_reducible exact H2_) | with_reducible exact H | (rw [hy191]; exact H) | exact H
         have Ny191 := am_ hy191
         clear hy191
         have H' := am_ H
         clear H
         have p188 : 0 ≤ (x9_1 : Int) := od_
         have q188 : x9_1 < (l0.length : Int) := od_
         obtain ⟨ad188, e188, hx188_0⟩ := Kd.at_int HR0.out x9_1 p188 q188
         cases e188
         replace hx188_0 := (HB.out.cell (World.block_lt_of_cell? w _ hx188_0)).trans hx188_0
         replace p188 := eq_true p188
         replace q188 := eq_true q188
         obtain ⟨Ao12, co12, eo12⟩ := Kd.R_slice HO_4.out
         subst eo12
         go_wp2_with (first | ((with_reducible refine gl_ 87 rfl ?_); refine goesM_ (some 16) Try.func87 #[.slice Ao12 x4_1.length co12, .int .i64 (wrap64 (-(rd l0 x9_1)))] ?_; (with_reducible refine (slices_Contains_int_int.calls k1 _ _ x4_1 (wrap64 (-(rd l0 x9_1))) false _ ?side1 ?side2 A5.out).mono ?_); (case side1 => exact cm_ (Kd.R_reads' HO_4.out).2.2); (case side2 => exact (Kd.R_reads' HO_4.out).2.1); rintro e w' ⟨rfl, ⟨nd, rfl⟩⟩; refine ⟨_, rfl, ?_⟩) | ((with_reducible refine gl_ 87 rfl ?_); refine goesM_ (some 19) Try.func87 #[.slice Ao12 x4_1.length co12, .int .i64 (rd l0 x9_1)] ?_; (with_reducible refine (slices_Contains_int_int.calls k1 _ _ x4_1 (rd l0 x9_1) false _ ?side1 ?side2 A8.out).mono ?_); (case side1 => exact cm_ (Kd.R_reads' HO_4.out).2.2); (case side2 => exact (Kd.R_reads' HO_4.out).2.1); rintro e w' ⟨rfl, ⟨nd, rfl⟩⟩; refine ⟨_, rfl, ?_⟩) | ((with_reducible refine gate_builtin (b := .append) (xs := #[.tmp 21, .tmp 23]) rfl ?_); at_builtin; refine Kd.R_append (Kd.int .i64) (w0 := w) w.heap.size rfl (.tmp 21) (.tmp 23) 43 3 (.int .i64 0) 8 rfl Try.underlying43 info3 rfl (by decide) (by omega) (.slice Ao12 x4_1.length co12) x4_1 (rd l0 x9_1) [.int .i64 (rd l0 x9_1)] (fun _ => True) (fun _ => False) rfl rfl ?aP (fun _ hk => hk.elim) ?aF ?aO ?aB ?aS ?aL ?_; (case aP => exact rfl); (case aB => exact (bq_)); (case aF => exact (fun _ _ => trivial)); (case aO => exact (rq_ HO_4.out)); (case aS => exact (below_size (bq_))); (case aL => have := LMc11.out; omega); intro v192 w13 ho hb hg hat; rw [← Ny191.out] at ho; replace HB := am_ (hb); have HO193 := am_ (ho); clear HO_4; clear ho hb hg hat))
         go_roundg k1
         case measure => have := HK1.out; omega
         case rel => exact ⟨(y191), (wrap64 (x9_1 + 1)), y53_, H', ⟨by have := HK1.out; omega⟩, ⟨rq_ HO193.out⟩, ⟨bq_⟩⟩
        ·rw [if_neg c11] at H
         exact absurd H (by simp)
     ·rw [if_neg c4] at H
      exact absurd H (by simp)
    ·rw [if_neg c3] at H
     exact absurd H (by simp)
   ·rw [if_neg c2] at H
    have c2b0 : decide (x9_1 < (l0.length : Int)) = false := decide_eq_false c2
    clear c2
    simp only [Option.some.injEq, Prod.mk.injEq] at H
    obtain ⟨rfl, rfl⟩ := H
    go_wp2
    go_ret2
    exact ⟨_, by first | rfl | (simp [errW_none, errW_some] <;> rfl) | (simp [*, errW_none, errW_some] <;> rfl), rq_ HO_4.out, bq_⟩
end Go.Proofs.Ytgahidilhjijiaa.PGG
