import Derived.Test.YtgahidilhjijiaaPGGx0
import Derived.Test.YtgahidilhjijiaaPGGx1
import Derived.Test.YtgahidilhjijiaaPGGx5
namespace Go.Proofs.Ytgahidilhjijiaa.PGG
open Go.RowKit Go.Proofs.YtgahidilhjijiaaW.PrintWords Go.Proofs.YtgahidilhjijiaaW.PrintLast Go.Proofs.YtgahidilhjijiaaW.PrintMore
attribute [local go_sem] max2_int min2_int max_two min_two max_three min_three max_four min_four   -- for this text's walks alone
set_option linter.unusedVariables false
set_option linter.unusedSimpArgs false
def spec_l8Eval.l0 : Nat → List Bool → List Bool → Int → List (S69) → Int → Int → Option (List Bool)
 | 0, _, _, _, _, _, _ => none
 | k + 1, x1, x5, x6, x9, x10, x11 => if x11 < x10 then (if 0 ≤ x11 then (if x11 < (x9.length : Int) then (if ((rd_T69 x9 x11).f0) = 1 then (if 0 ≤ x6 then (if x6 < (x1.length : Int) then (if x5.length < 140737488355328 then (spec_l8Eval.l0 k x1 (x5 ++ [rdOf false x1 x6]) (wrap64 (x6 + 1)) x9 x10 (wrap64 (x11 + 1))) else (none)) else (none)) else (none)) else (if ((rd_T69 x9 x11).f0) = 2 then (if 0 ≤ ((rd_T69 x9 x11).f1) then (if ((rd_T69 x9 x11).f1) < (x5.length : Int) then (if x5.length < 140737488355328 then (spec_l8Eval.l0 k x1 (x5 ++ [!(rdOf false x5 ((rd_T69 x9 x11).f1))]) x6 x9 x10 (wrap64 (x11 + 1))) else (none)) else (none)) else (none)) else (if ((rd_T69 x9 x11).f0) = 3 then (if 0 ≤ ((rd_T69 x9 x11).f1) then (if ((rd_T69 x9 x11).f1) < (x5.length : Int) then (if rdOf false x5 ((rd_T69 x9 x11).f1) = true then (if 0 ≤ ((rd_T69 x9 x11).f2) then (if ((rd_T69 x9 x11).f2) < (x5.length : Int) then (if x5.length < 140737488355328 then (spec_l8Eval.l0 k x1 (x5 ++ [rdOf false x5 ((rd_T69 x9 x11).f2)]) x6 x9 x10 (wrap64 (x11 + 1))) else (none)) else (none)) else (none)) else (if x5.length < 140737488355328 then (spec_l8Eval.l0 k x1 (x5 ++ [false]) x6 x9 x10 (wrap64 (x11 + 1))) else (none))) else (none)) else (none)) else (if ((rd_T69 x9 x11).f0) = 4 then (if 0 ≤ ((rd_T69 x9 x11).f1) then (if ((rd_T69 x9 x11).f1) < (x5.length : Int) then (if rdOf false x5 ((rd_T69 x9 x11).f1) = true then (if x5.length < 140737488355328 then (spec_l8Eval.l0 k x1 (x5 ++ [true]) x6 x9 x10 (wrap64 (x11 + 1))) else (none)) else (if 0 ≤ ((rd_T69 x9 x11).f2) then (if ((rd_T69 x9 x11).f2) < (x5.length : Int) then (if x5.length < 140737488355328 then (spec_l8Eval.l0 k x1 (x5 ++ [rdOf false x5 ((rd_T69 x9 x11).f2)]) x6 x9 x10 (wrap64 (x11 + 1))) else (none)) else (none)) else (none))) else (none)) else (none)) else (if 0 ≤ ((rd_T69 x9 x11).f1) then (if ((rd_T69 x9 x11).f1) < (x5.length : Int) then (if 0 ≤ ((rd_T69 x9 x11).f2) then (if ((rd_T69 x9 x11).f2) < (x5.length : Int) then (if x5.length < 140737488355328 then (spec_l8Eval.l0 k x1 (x5 ++ [((rdOf false x5 ((rd_T69 x9 x11).f1)) != (rdOf false x5 ((rd_T69 x9 x11).f2)))]) x6 x9 x10 (wrap64 (x11 + 1))) else (none)) else (none)) else (none)) else (none)) else (none)))))) else (none)) else (none)) else (some x5)
def spec_l8Eval.f (k : Nat) (l0 : List (S69)) (l1 : List Bool) : Option (List Bool) := spec_l8Eval.l0 k l1 ([] : List Bool) 0 l0 (l0.length : Int) 0
def spec_l8Eval.T7 : Bool × List (List Nat × List Nat) := (true, [([], []), ([], []), ([], []), ([2], [2]), ([1, 3], [1, 3]), ([4], [4]), ([], []), ([], []), ([7], [7]), ([6, 8], [6, 8]), ([9], [9]), ([5, 10], [5, 10]), ([11], [11]), ([0, 12], [0, 12]), ([13, 13, 0, 1, 2, 3, 4, 5, 6, 7, 8, 9, 10, 11, 12, 13], [0, 1, 6, 13])])
def spec_l8Eval.B7 : List Nat := [0, 0, 0, 4, 14, 30, 0, 0, 128, 448, 960, 2046, 4094, 8191, 16383]
theorem spec_l8Eval.tab7 : rtab .any (opsOf Try.f57 7) = spec_l8Eval.T7 := by kernel_rfl
theorem spec_l8Eval.bits7 : waitsOk spec_l8Eval.T7.2 spec_l8Eval.B7 = true := by kernel_rfl
set_option maxHeartbeats 8000000 in
set_option maxRecDepth 100000 in
theorem spec_l8Eval.calls (k : Nat) (A0 : Option Addr) (c0 : Nat) (l0 : List (S69)) (A1 : Option Addr) (c1 : Nat) (l1 : List Bool) (r : List Bool) (w : World) (hr0 : Kd.C k69 w A0 l0.length l0) (hc0 : l0.length ≤ c0) (hr1 : Kd.C Kd.bool w A1 l1.length l1) (hc1 : l1.length ≤ c1) (h : spec_l8Eval.f k l0 l1 = some r) :
  Calls Try.prog 57 #[.slice A0 l0.length c0, .slice A1 l1.length c1] w fun e w' => ∃ v0_ : Value, e = .returned (v0_) ∧ Kd.R Kd.bool 4 w' w.heap.size (fun _ => True) v0_ r ∧ Below w.heap.size w w' := by
 have hu69 := Try.underlying69
 have HR0 := am_ hr0
 have HC0 := am_ hc0
 clear hr0 hc0
 have HR1 := am_ hr1
 have HC1 := am_ hc1
 clear hr1 hc1
 have HB := am_ (Below.refl w.heap.size w)
 have H : (spec_l8Eval.l0 k l1 ([] : List Bool) 0 l0 (l0.length : Int) 0) = some r := h
 clear h
 have H' := am_ H
 clear H
 go_enter Try.func57, Try.ntmps57
 go_wp2
 go_loopg [5, 6, 11] k (fun kq v5 v6 v11 w' => ∃ (x5_1 : List Bool) (x6_1 : Int) (x11_1 : Int), v6 = .int .i64 x6_1 ∧ v11 = .int .i64 x11_1 ∧ Aside0 (spec_l8Eval.l0 kq l1 x5_1 x6_1 l0 (l0.length : Int) x11_1 = some r) ∧ Aside0 (kq ≤ k) ∧ Aside0 (Kd.R Kd.bool 4 w' w.heap.size (fun _ => True) v5 x5_1) ∧ Aside0 (Below w.heap.size w w'))
 case atStart => exact ⟨(([] : List Bool)), (0), (0), y53_, y53_, H', ⟨Nat.le_refl _⟩, ⟨by first | exact Kd.R_nil _ _ _ _ _ | exact Kd.N_nil _ _ _ _ _ | exact Kd.V_nil _ _ _ _ _ | exact Kd.Q_nil _ _ _ _ _ | exact Kd.S_nil _ _ _ _ _⟩, ⟨bq_⟩⟩
 case round =>
  clear H'
  try clear c1
  try clear p2
  obtain ⟨x5_1, x6_1, x11_1, rfl, rfl, HA, HK1, HO_5, HB⟩ := hrel
  cases gk with
  | zero => exact absurd HA.out (by simp [spec_l8Eval.l0])
  | succ k1 =>
   have H := HA.out
   clear HA
   simp only [spec_l8Eval.l0] at H
   by_cases c3 : x11_1 < (l0.length : Int)
   ·rw [if_pos c3] at H
    have c3b0 : decide (x11_1 < (l0.length : Int)) = true := decide_eq_true c3
    clear c3
    by_cases c4 : 0 ≤ x11_1
    ·rw [if_pos c4] at H
     have c4b0 : decide (0 ≤ x11_1) = true := decide_eq_true c4
     clear c4
     by_cases c5 : x11_1 < (l0.length : Int)
     ·rw [if_pos c5] at H
      have c5b0 : decide (x11_1 < (l0.length : Int)) = true := decide_eq_true c5
      clear c5
      by_cases c6 : ((rd_T69 l0 x11_1).f0) = 1
      ·rw [if_pos c6] at H
       have c6b0 : (((rd_T69 l0 x11_1).f0) == 1) = true := beq_iff_eq.mpr c6
       have c6b1 : (((rd_T69 l0 x11_1).f0) != 1) = false := bne_eq_false_iff_eq.mpr c6
       clear c6
       by_cases c7 : 0 ≤ x6_1
       ·rw [if_pos c7] at H
        have c7b0 : decide (0 ≤ x6_1) = true := decide_eq_true c7
        clear c7
        by_cases c8 : x6_1 < (l1.length : Int)
        ·rw [if_pos c8] at H
         have c8b0 : decide (x6_1 < (l1.length : Int)) = true := decide_eq_true c8
         clear c8
         by_cases c9 : x5_1.length < 140737488355328
         ·rw [if_pos c9] at H
          have LMc9 := am_ c9
          clear c9
          obtain ⟨y411, hy411⟩ : ∃ y_ : List Bool, y_ = (x5_1 ++ [rdOf false l1 x6_1]) := ⟨_, rfl⟩
          replace H : (spec_l8Eval.l0 k1 l1 y411 (wrap64 (x6_1 + 1)) l0 (l0.length : Int) (wrap64 (x11_1 + 1))) = some r := by first | (rw [hy411]; with_reducible exact H) | (have H2_ := (Option.bind_some _ _).symm.trans H; rw [hy411]; with_reducible exact H2_) | (have H2_ := (Option.bind_some _ _).symm.trans H; with_reducible exact H2_) | with_reducible exact H | (rw [hy411]; exact H) | exact H
          have Ny411 := am_ hy411
          clear hy411
          have H' := am_ H
          clear H
          have p408 : 0 ≤ (x11_1 : Int) := od_
          have q408 : x11_1 < (l0.length : Int) := od_
          obtain ⟨ad408, e408, hx408_0, hx408_1, hx408_2⟩ := at_T69 HR0.out x11_1 p408 q408
          cases e408
          replace hx408_0 := (HB.out.cell (World.block_lt_of_cell? w _ hx408_0)).trans hx408_0
          replace hx408_1 := (HB.out.cell (World.block_lt_of_cell? w _ hx408_1)).trans hx408_1
          replace hx408_2 := (HB.out.cell (World.block_lt_of_cell? w _ hx408_2)).trans hx408_2
          replace p408 := eq_true p408
          replace q408 := eq_true q408
          go_wp2_with (first | ((with_reducible refine gate_dst (N := 8) rfl ?_); refine boxq_ (N := 8) (cs := #[.int .i64 0, .int .i64 0, .int .i64 0]) (t := 69) ?_; intro gb409 hg w10 hbox hb; replace HO_5 := am_ (Kd.R_below (rq_ HO_5.out) hb); have BK409 := am_ (hbox); have GW409 := gz_ hg; have GE409 := gz_ hg; replace HB := bs_ hb; clear hb hbox hg; have hcz11_0 := cq_ BK409.out 0 (.int .i64 0); have hcz11_1 := cq_ BK409.out 1 (.int .i64 0); have hcz11_2 := cq_ BK409.out 2 (.int .i64 0); have hfz11_0 := blk_frozen BK409.out 0; have hfz11_1 := blk_frozen BK409.out 1; have hfz11_2 := blk_frozen BK409.out 2; have p410 : 0 ≤ (x6_1 : Int) := od_; have q410 : x6_1 < (l1.length : Int) := od_; obtain ⟨ad410, e410, hx410_0⟩ := Kd.at_bool HR1.out x6_1 p410 q410; cases e410; have hn410_0 : ad410.block ≠ gb409 := Nat.ne_of_lt (Nat.lt_of_lt_of_le y50_ GW409.out); have hn410_1 : ad410.block ≠ gb409 := Nat.ne_of_lt (Nat.lt_of_lt_of_le y50_ GW409.out); have hn410_2 : ad410.block ≠ gb409 := Nat.ne_of_lt (Nat.lt_of_lt_of_le y50_ GW409.out); replace hx410_0 := (HB.out.cell (World.block_lt_of_cell? w _ hx410_0)).trans hx410_0; replace hx410_0 := (cell_far (p := ⟨gb409, 0, none⟩) (by first | (rw [add_block]; exact hn410_0) | (show (Addr.add _ _).block ≠ _; rw [add_block]; exact hn410_0) | exact hn410_0) (.int .i64 ((rd_T69 l0 x11_1).f0))).trans hx410_0; replace hx410_0 := (cell_far (p := ⟨gb409, 1, none⟩) (by first | (rw [add_block]; exact hn410_1) | (show (Addr.add _ _).block ≠ _; rw [add_block]; exact hn410_1) | exact hn410_1) (.int .i64 ((rd_T69 l0 x11_1).f1))).trans hx410_0; replace hx410_0 := (cell_far (p := ⟨gb409, 2, none⟩) (by first | (rw [add_block]; exact hn410_2) | (show (Addr.add _ _).block ≠ _; rw [add_block]; exact hn410_2) | exact hn410_2) (.int .i64 ((rd_T69 l0 x11_1).f2))).trans hx410_0; clear hn410_0; clear hn410_1; clear hn410_2; replace p410 := eq_true p410; replace q410 := eq_true q410) | ((with_reducible refine gate_builtin (b := .append) (xs := #[.tmp 33, .tmp 38]) rfl ?_); at_builtin; refine Kd.R_append Kd.bool (w0 := w) w.heap.size rfl (.tmp 33) (.tmp 38) 37 4 (.bool false) 1 rfl Try.underlying37 info4 rfl (by decide) (by omega) u5 x5_1 (rdOf false l1 x6_1) [.bool (rdOf false l1 x6_1)] (fun _ => True) (fun _ => False) rfl y54_ ?aP (fun _ hk => hk.elim) ?aF ?aO ?aB ?aS ?aL ?_; (case aP => exact rfl); (case aB => exact (bq_)); (case aF => exact (fun _ _ => trivial)); (case aO => exact (rq_ (Kd.R_mono (Kd.R_far (p := ⟨gb409, 2, none⟩) (Kd.R_far (p := ⟨gb409, 1, none⟩) (Kd.R_far (p := ⟨gb409, 0, none⟩) (Kd.R_types HO_5.out BK409.out (by decide)) (fun _ hk => hk.2) (.int .i64 ((rd_T69 l0 x11_1).f0))) (fun _ hk => hk.2) (.int .i64 ((rd_T69 l0 x11_1).f1))) (fun _ hk => hk.2) (.int .i64 ((rd_T69 l0 x11_1).f2))) (fun _ hk => trivial)))); (case aS => exact (below_size (bq_))); (case aL => have := LMc9.out; omega); intro v412 w12 ho hb hg hat; rw [← Ny411.out] at ho; replace BK409 := am_ (blk_grown (g := gb409) (o := .cells #[.int .i64 ((rd_T69 l0 x11_1).f0), .int .i64 ((rd_T69 l0 x11_1).f1), .int .i64 ((rd_T69 l0 x11_1).f2)] 69 (0, 0)) (bu_ BK409.out) hg (Kd.R_ne HO_5.out BK409.out (by decide))); replace HB := am_ (hb); have HO413 := am_ (ho); clear HO_5; clear ho hb hg hat))
          go_roundg k1
          case measure => have := HK1.out; omega
          case rel => exact ⟨(y411), (wrap64 (x6_1 + 1)), (wrap64 (x11_1 + 1)), y53_, y53_, H', ⟨by have := HK1.out; omega⟩, ⟨rq_ HO413.out⟩, ⟨bq_⟩⟩
         ·rw [if_neg c9] at H
          exact absurd H (by simp)
        ·rw [if_neg c8] at H
         exact absurd H (by simp)
       ·rw [if_neg c7] at H
        exact absurd H (by simp)
      ·rw [if_neg c6] at H
       have c6b0 : (((rd_T69 l0 x11_1).f0) == 1) = false := beq_eq_false_iff_ne.mpr c6
       have c6b1 : (((rd_T69 l0 x11_1).f0) != 1) = true := bne_iff_ne.mpr c6
       by_cases c13 : ((rd_T69 l0 x11_1).f0) = 2
       ·rw [if_pos c13] at H
        have c13b0 : (((rd_T69 l0 x11_1).f0) == 2) = true := beq_iff_eq.mpr c13
        have c13b1 : (((rd_T69 l0 x11_1).f0) != 2) = false := bne_eq_false_iff_eq.mpr c13
        clear c13
        by_cases c14 : 0 ≤ ((rd_T69 l0 x11_1).f1)
        ·rw [if_pos c14] at H
         have c14b0 : decide (0 ≤ ((rd_T69 l0 x11_1).f1)) = true := decide_eq_true c14
         clear c14
         by_cases c15 : ((rd_T69 l0 x11_1).f1) < (x5_1.length : Int)
         ·rw [if_pos c15] at H
          have c15b0 : decide (((rd_T69 l0 x11_1).f1) < (x5_1.length : Int)) = true := decide_eq_true c15
          clear c15
          by_cases c16 : x5_1.length < 140737488355328
          ·rw [if_pos c16] at H
           have LMc16 := am_ c16
           clear c16
           obtain ⟨y415, hy415⟩ : ∃ y_ : List Bool, y_ = (x5_1 ++ [!(rdOf false x5_1 ((rd_T69 l0 x11_1).f1))]) := ⟨_, rfl⟩
           replace H : (spec_l8Eval.l0 k1 l1 y415 x6_1 l0 (l0.length : Int) (wrap64 (x11_1 + 1))) = some r := by first | (rw [hy415]; with_reducible exact H) | (have H2_ := (Option.bind_some _ _).symm.trans H; rw [hy415]; with_reducible exact H2_) | (have H2_ := (Option.bind_some _ _).symm.trans H; with_reducible exact H2_) | with_reducible exact H | (rw [hy415]; exact H) | exact H
           have Ny415 := am_ hy415
           clear hy415
           have H' := am_ H
           clear H
           have p408 : 0 ≤ (x11_1 : Int) := od_
           have q408 : x11_1 < (l0.length : Int) := od_
           obtain ⟨ad408, e408, hx408_0, hx408_1, hx408_2⟩ := at_T69 HR0.out x11_1 p408 q408
           cases e408
           replace hx408_0 := (HB.out.cell (World.block_lt_of_cell? w _ hx408_0)).trans hx408_0
           replace hx408_1 := (HB.out.cell (World.block_lt_of_cell? w _ hx408_1)).trans hx408_1
           replace hx408_2 := (HB.out.cell (World.block_lt_of_cell? w _ hx408_2)).trans hx408_2
           replace p408 := eq_true p408
           replace q408 := eq_true q408
           go_wp2_with (first | ((with_reducible refine gate_dst (N := 8) rfl ?_); refine boxq_ (N := 8) (cs := #[.int .i64 0, .int .i64 0, .int .i64 0]) (t := 69) ?_; intro gb409 hg w17 hbox hb; replace HO_5 := am_ (Kd.R_below (rq_ HO_5.out) hb); have BK409 := am_ (hbox); have GW409 := gz_ hg; have GE409 := gz_ hg; replace HB := bs_ hb; clear hb hbox hg; have hcz18_0 := cq_ BK409.out 0 (.int .i64 0); have hcz18_1 := cq_ BK409.out 1 (.int .i64 0); have hcz18_2 := cq_ BK409.out 2 (.int .i64 0); have hfz18_0 := blk_frozen BK409.out 0; have hfz18_1 := blk_frozen BK409.out 1; have hfz18_2 := blk_frozen BK409.out 2; obtain ⟨Ao19, co19, eo19⟩ := Kd.R_slice HO_5.out; subst eo19; have p414 : 0 ≤ (((rd_T69 l0 x11_1).f1) : Int) := od_; have q414 : ((rd_T69 l0 x11_1).f1) < (x5_1.length : Int) := od_; obtain ⟨ad414, e414, hx414_0⟩ := Kd.at_bool (Kd.R_reads' HO_5.out).2.2 ((rd_T69 l0 x11_1).f1) p414 q414; cases e414; have hn414_0 : ad414.block ≠ gb409 := Kd.own_blk (Kd.R_ne HO_5.out BK409.out (by decide)); have hn414_1 : ad414.block ≠ gb409 := Kd.own_blk (Kd.R_ne HO_5.out BK409.out (by decide)); have hn414_2 : ad414.block ≠ gb409 := Kd.own_blk (Kd.R_ne HO_5.out BK409.out (by decide)); replace hx414_0 := (cell_far (p := ⟨gb409, 0, none⟩) (by first | (rw [add_block]; exact hn414_0) | (show (Addr.add _ _).block ≠ _; rw [add_block]; exact hn414_0) | exact hn414_0) (.int .i64 ((rd_T69 l0 x11_1).f0))).trans hx414_0; replace hx414_0 := (cell_far (p := ⟨gb409, 1, none⟩) (by first | (rw [add_block]; exact hn414_1) | (show (Addr.add _ _).block ≠ _; rw [add_block]; exact hn414_1) | exact hn414_1) (.int .i64 ((rd_T69 l0 x11_1).f1))).trans hx414_0; replace hx414_0 := (cell_far (p := ⟨gb409, 2, none⟩) (by first | (rw [add_block]; exact hn414_2) | (show (Addr.add _ _).block ≠ _; rw [add_block]; exact hn414_2) | exact hn414_2) (.int .i64 ((rd_T69 l0 x11_1).f2))).trans hx414_0; clear hn414_0; clear hn414_1; clear hn414_2; replace p414 := eq_true p414; replace q414 := eq_true q414) | ((with_reducible refine gate_builtin (b := .append) (xs := #[.tmp 44, .tmp 51]) rfl ?_); at_builtin; refine Kd.R_append Kd.bool (w0 := w) w.heap.size rfl (.tmp 44) (.tmp 51) 37 4 (.bool false) 1 rfl Try.underlying37 info4 rfl (by decide) (by omega) (.slice (some ad414) x5_1.length co19) x5_1 (!(rdOf false x5_1 ((rd_T69 l0 x11_1).f1))) [.bool (!(rdOf false x5_1 ((rd_T69 l0 x11_1).f1)))] (fun _ => True) (fun _ => False) rfl y54_ ?aP (fun _ hk => hk.elim) ?aF ?aO ?aB ?aS ?aL ?_; (case aP => exact rfl); (case aB => exact (bq_)); (case aF => exact (fun _ _ => trivial)); (case aO => exact (rq_ (Kd.R_mono (Kd.R_far (p := ⟨gb409, 2, none⟩) (Kd.R_far (p := ⟨gb409, 1, none⟩) (Kd.R_far (p := ⟨gb409, 0, none⟩) (Kd.R_types HO_5.out BK409.out (by decide)) (fun _ hk => hk.2) (.int .i64 ((rd_T69 l0 x11_1).f0))) (fun _ hk => hk.2) (.int .i64 ((rd_T69 l0 x11_1).f1))) (fun _ hk => hk.2) (.int .i64 ((rd_T69 l0 x11_1).f2))) (fun _ hk => trivial)))); (case aS => exact (below_size (bq_))); (case aL => have := LMc16.out; omega); intro v416 w20 ho hb hg hat; rw [← Ny415.out] at ho; replace BK409 := am_ (blk_grown (g := gb409) (o := .cells #[.int .i64 ((rd_T69 l0 x11_1).f0), .int .i64 ((rd_T69 l0 x11_1).f1), .int .i64 ((rd_T69 l0 x11_1).f2)] 69 (0, 0)) (bu_ BK409.out) hg (Kd.R_ne HO_5.out BK409.out (by decide))); replace HB := am_ (hb); have HO417 := am_ (ho); clear HO_5; clear ho hb hg hat))
           go_roundg k1
           case measure => have := HK1.out; omega
           case rel => exact ⟨(y415), (x6_1), (wrap64 (x11_1 + 1)), y53_, y53_, H', ⟨by have := HK1.out; omega⟩, ⟨rq_ HO417.out⟩, ⟨bq_⟩⟩
          ·rw [if_neg c16] at H
           exact absurd H (by simp)
         ·rw [if_neg c15] at H
          exact absurd H (by simp)
        ·rw [if_neg c14] at H
         exact absurd H (by simp)
       ·rw [if_neg c13] at H
        have c13b0 : (((rd_T69 l0 x11_1).f0) == 2) = false := beq_eq_false_iff_ne.mpr c13
        have c13b1 : (((rd_T69 l0 x11_1).f0) != 2) = true := bne_iff_ne.mpr c13
        by_cases c21 : ((rd_T69 l0 x11_1).f0) = 3
        ·rw [if_pos c21] at H
         have c21b0 : (((rd_T69 l0 x11_1).f0) == 3) = true := beq_iff_eq.mpr c21
         have c21b1 : (((rd_T69 l0 x11_1).f0) != 3) = false := bne_eq_false_iff_eq.mpr c21
         clear c21
         by_cases c22 : 0 ≤ ((rd_T69 l0 x11_1).f1)
         ·rw [if_pos c22] at H
          have c22b0 : decide (0 ≤ ((rd_T69 l0 x11_1).f1)) = true := decide_eq_true c22
          clear c22
          by_cases c23 : ((rd_T69 l0 x11_1).f1) < (x5_1.length : Int)
          ·rw [if_pos c23] at H
           have c23b0 : decide (((rd_T69 l0 x11_1).f1) < (x5_1.length : Int)) = true := decide_eq_true c23
           clear c23
           obtain ⟨bq24, hbq24⟩ : ∃ b_ : Bool, b_ = (rdOf false x5_1 ((rd_T69 l0 x11_1).f1)) := ⟨_, rfl⟩
           replace H : (if bq24 = true then (if 0 ≤ ((rd_T69 l0 x11_1).f2) then (if ((rd_T69 l0 x11_1).f2) < (x5_1.length : Int) then (if x5_1.length < 140737488355328 then (spec_l8Eval.l0 k1 l1 (x5_1 ++ [rdOf false x5_1 ((rd_T69 l0 x11_1).f2)]) x6_1 l0 (l0.length : Int) (wrap64 (x11_1 + 1))) else (none)) else (none)) else (none)) else (if x5_1.length < 140737488355328 then (spec_l8Eval.l0 k1 l1 (x5_1 ++ [false]) x6_1 l0 (l0.length : Int) (wrap64 (x11_1 + 1))) else (none))) = some r := by rw [← hbq24] at H; exact H
           have Nbq24 := am_ hbq24
           clear hbq24
           by_cases c25 : bq24 = true
           ·subst c25
            have H1 : (if 0 ≤ ((rd_T69 l0 x11_1).f2) then (if ((rd_T69 l0 x11_1).f2) < (x5_1.length : Int) then (if x5_1.length < 140737488355328 then (spec_l8Eval.l0 k1 l1 (x5_1 ++ [rdOf false x5_1 ((rd_T69 l0 x11_1).f2)]) x6_1 l0 (l0.length : Int) (wrap64 (x11_1 + 1))) else (none)) else (none)) else (none)) = some r := by rw [if_pos rfl] at H; exact H
            clear H
            have H := H1
            clear H1
            by_cases c26 : 0 ≤ ((rd_T69 l0 x11_1).f2)
            ·rw [if_pos c26] at H
             have c26b0 : decide (0 ≤ ((rd_T69 l0 x11_1).f2)) = true := decide_eq_true c26
             clear c26
             by_cases c27 : ((rd_T69 l0 x11_1).f2) < (x5_1.length : Int)
             ·rw [if_pos c27] at H
              have c27b0 : decide (((rd_T69 l0 x11_1).f2) < (x5_1.length : Int)) = true := decide_eq_true c27
              clear c27
              by_cases c28 : x5_1.length < 140737488355328
              ·rw [if_pos c28] at H
               have LMc28 := am_ c28
               clear c28
               obtain ⟨y420, hy420⟩ : ∃ y_ : List Bool, y_ = (x5_1 ++ [rdOf false x5_1 ((rd_T69 l0 x11_1).f2)]) := ⟨_, rfl⟩
               replace H : (spec_l8Eval.l0 k1 l1 y420 x6_1 l0 (l0.length : Int) (wrap64 (x11_1 + 1))) = some r := by first | (rw [hy420]; with_reducible exact H) | (have H2_ := (Option.bind_some _ _).symm.trans H; rw [hy420]; with_reducible exact H2_) | (have H2_ := (Option.bind_some _ _).symm.trans H; with_reducible exact H2_) | with_reducible exact H | (rw [hy420]; exact H) | exact H
               have Ny420 := am_ hy420
               clear hy420
               have H' := am_ H
               clear H
               have p408 : 0 ≤ (x11_1 : Int) := od_
               have q408 : x11_1 < (l0.length : Int) := od_
               obtain ⟨ad408, e408, hx408_0, hx408_1, hx408_2⟩ := at_T69 HR0.out x11_1 p408 q408
               cases e408
               replace hx408_0 := (HB.out.cell (World.block_lt_of_cell? w _ hx408_0)).trans hx408_0
               replace hx408_1 := (HB.out.cell (World.block_lt_of_cell? w _ hx408_1)).trans hx408_1
               replace hx408_2 := (HB.out.cell (World.block_lt_of_cell? w _ hx408_2)).trans hx408_2
               replace p408 := eq_true p408
               replace q408 := eq_true q408
               go_wp2_with (first | ((with_reducible refine gate_dst (N := 8) rfl ?_); refine boxq_ (N := 8) (cs := #[.int .i64 0, .int .i64 0, .int .i64 0]) (t := 69) ?_; intro gb409 hg w29 hbox hb; replace HO_5 := am_ (Kd.R_below (rq_ HO_5.out) hb); have BK409 := am_ (hbox); have GW409 := gz_ hg; have GE409 := gz_ hg; replace HB := bs_ hb; clear hb hbox hg; have hcz30_0 := cq_ BK409.out 0 (.int .i64 0); have hcz30_1 := cq_ BK409.out 1 (.int .i64 0); have hcz30_2 := cq_ BK409.out 2 (.int .i64 0); have hfz30_0 := blk_frozen BK409.out 0; have hfz30_1 := blk_frozen BK409.out 1; have hfz30_2 := blk_frozen BK409.out 2; obtain ⟨Ao31, co31, eo31⟩ := Kd.R_slice HO_5.out; subst eo31; have p418 : 0 ≤ (((rd_T69 l0 x11_1).f1) : Int) := od_; have q418 : ((rd_T69 l0 x11_1).f1) < (x5_1.length : Int) := od_; obtain ⟨ad418, e418, hx418_0⟩ := Kd.at_bool (Kd.R_reads' HO_5.out).2.2 ((rd_T69 l0 x11_1).f1) p418 q418; (try rw [← Nbq24.out] at hx418_0); cases e418; have hn418_0 : ad418.block ≠ gb409 := Kd.own_blk (Kd.R_ne HO_5.out BK409.out (by decide)); have hn418_1 : ad418.block ≠ gb409 := Kd.own_blk (Kd.R_ne HO_5.out BK409.out (by decide)); have hn418_2 : ad418.block ≠ gb409 := Kd.own_blk (Kd.R_ne HO_5.out BK409.out (by decide)); replace hx418_0 := (cell_far (p := ⟨gb409, 0, none⟩) (by first | (rw [add_block]; exact hn418_0) | (show (Addr.add _ _).block ≠ _; rw [add_block]; exact hn418_0) | exact hn418_0) (.int .i64 ((rd_T69 l0 x11_1).f0))).trans hx418_0; replace hx418_0 := (cell_far (p := ⟨gb409, 1, none⟩) (by first | (rw [add_block]; exact hn418_1) | (show (Addr.add _ _).block ≠ _; rw [add_block]; exact hn418_1) | exact hn418_1) (.int .i64 ((rd_T69 l0 x11_1).f1))).trans hx418_0; replace hx418_0 := (cell_far (p := ⟨gb409, 2, none⟩) (by first | (rw [add_block]; exact hn418_2) | (show (Addr.add _ _).block ≠ _; rw [add_block]; exact hn418_2) | exact hn418_2) (.int .i64 ((rd_T69 l0 x11_1).f2))).trans hx418_0; clear hn418_0; clear hn418_1; clear hn418_2; replace p418 := eq_true p418; replace q418 := eq_true q418; have p419 : 0 ≤ (((rd_T69 l0 x11_1).f2) : Int) := od_; have q419 : ((rd_T69 l0 x11_1).f2) < (x5_1.length : Int) := od_; obtain ⟨ad419, e419, hx419_0⟩ := Kd.at_bool (Kd.R_reads' HO_5.out).2.2 ((rd_T69 l0 x11_1).f2) p419 q419; (try rw [← Nbq24.out] at hx419_0); obtain rfl : ad418 = ad419 := (by injection e419); have hn419_0 : ad418.block ≠ gb409 := Kd.own_blk (Kd.R_ne HO_5.out BK409.out (by decide)); have hn419_1 : ad418.block ≠ gb409 := Kd.own_blk (Kd.R_ne HO_5.out BK409.out (by decide)); have hn419_2 : ad418.block ≠ gb409 := Kd.own_blk (Kd.R_ne HO_5.out BK409.out (by decide)); replace hx419_0 := (cell_far (p := ⟨gb409, 0, none⟩) (by first | (rw [add_block]; exact hn419_0) | (show (Addr.add _ _).block ≠ _; rw [add_block]; exact hn419_0) | exact hn419_0) (.int .i64 ((rd_T69 l0 x11_1).f0))).trans hx419_0; replace hx419_0 := (cell_far (p := ⟨gb409, 1, none⟩) (by first | (rw [add_block]; exact hn419_1) | (show (Addr.add _ _).block ≠ _; rw [add_block]; exact hn419_1) | exact hn419_1) (.int .i64 ((rd_T69 l0 x11_1).f1))).trans hx419_0; replace hx419_0 := (cell_far (p := ⟨gb409, 2, none⟩) (by first | (rw [add_block]; exact hn419_2) | (show (Addr.add _ _).block ≠ _; rw [add_block]; exact hn419_2) | exact hn419_2) (.int .i64 ((rd_T69 l0 x11_1).f2))).trans hx419_0; clear hn419_0; clear hn419_1; clear hn419_2; replace p419 := eq_true p419; replace q419 := eq_true q419) | ((with_reducible refine gate_builtin (b := .append) (xs := #[.tmp 55, .tmp 68]) rfl ?_); at_builtin; refine Kd.R_append Kd.bool (w0 := w) w.heap.size rfl (.tmp 55) (.tmp 68) 37 4 (.bool false) 1 rfl Try.underlying37 info4 rfl (by decide) (by omega) (.slice (some ad418) x5_1.length co31) x5_1 (rdOf false x5_1 ((rd_T69 l0 x11_1).f2)) [.bool (rdOf false x5_1 ((rd_T69 l0 x11_1).f2))] (fun _ => True) (fun _ => False) rfl y54_ ?aP (fun _ hk => hk.elim) ?aF ?aO ?aB ?aS ?aL ?_; (case aP => exact rfl); (case aB => exact (bq_)); (case aF => exact (fun _ _ => trivial)); (case aO => exact (rq_ (Kd.R_mono (Kd.R_far (p := ⟨gb409, 2, none⟩) (Kd.R_far (p := ⟨gb409, 1, none⟩) (Kd.R_far (p := ⟨gb409, 0, none⟩) (Kd.R_types HO_5.out BK409.out (by decide)) (fun _ hk => hk.2) (.int .i64 ((rd_T69 l0 x11_1).f0))) (fun _ hk => hk.2) (.int .i64 ((rd_T69 l0 x11_1).f1))) (fun _ hk => hk.2) (.int .i64 ((rd_T69 l0 x11_1).f2))) (fun _ hk => trivial)))); (case aS => exact (below_size (bq_))); (case aL => have := LMc28.out; omega); intro v421 w32 ho hb hg hat; rw [← Ny420.out] at ho; replace BK409 := am_ (blk_grown (g := gb409) (o := .cells #[.int .i64 ((rd_T69 l0 x11_1).f0), .int .i64 ((rd_T69 l0 x11_1).f1), .int .i64 ((rd_T69 l0 x11_1).f2)] 69 (0, 0)) (bu_ BK409.out) hg (Kd.R_ne HO_5.out BK409.out (by decide))); replace HB := am_ (hb); have HO422 := am_ (ho); clear HO_5; clear ho hb hg hat))
               go_roundg k1
               case measure => have := HK1.out; omega
               case rel => exact ⟨(y420), (x6_1), (wrap64 (x11_1 + 1)), y53_, y53_, H', ⟨by have := HK1.out; omega⟩, ⟨rq_ HO422.out⟩, ⟨bq_⟩⟩
              ·rw [if_neg c28] at H
               exact absurd H (by simp)
             ·rw [if_neg c27] at H
              exact absurd H (by simp)
            ·rw [if_neg c26] at H
             exact absurd H (by simp)
           ·replace c25 := Bool.eq_false_iff.mpr c25
            subst c25
            have H1 : (if x5_1.length < 140737488355328 then (spec_l8Eval.l0 k1 l1 (x5_1 ++ [false]) x6_1 l0 (l0.length : Int) (wrap64 (x11_1 + 1))) else (none)) = some r := by rw [if_neg (show ¬ (false = true) by decide)] at H; exact H
            clear H
            have H := H1
            clear H1
            by_cases c33 : x5_1.length < 140737488355328
            ·rw [if_pos c33] at H
             have LMc33 := am_ c33
             clear c33
             obtain ⟨y423, hy423⟩ : ∃ y_ : List Bool, y_ = (x5_1 ++ [false]) := ⟨_, rfl⟩
             replace H : (spec_l8Eval.l0 k1 l1 y423 x6_1 l0 (l0.length : Int) (wrap64 (x11_1 + 1))) = some r := by first | (rw [hy423]; with_reducible exact H) | (have H2_ := (Option.bind_some _ _).symm.trans H; rw [hy423]; with_reducible exact H2_) | (have H2_ := (Option.bind_some _ _).symm.trans H; with_reducible exact H2_) | with_reducible exact H | (rw [hy423]; exact H) | exact H
             have Ny423 := am_ hy423
             clear hy423
             have H' := am_ H
             clear H
             have p408 : 0 ≤ (x11_1 : Int) := od_
             have q408 : x11_1 < (l0.length : Int) := od_
             obtain ⟨ad408, e408, hx408_0, hx408_1, hx408_2⟩ := at_T69 HR0.out x11_1 p408 q408
             cases e408
             replace hx408_0 := (HB.out.cell (World.block_lt_of_cell? w _ hx408_0)).trans hx408_0
             replace hx408_1 := (HB.out.cell (World.block_lt_of_cell? w _ hx408_1)).trans hx408_1
             replace hx408_2 := (HB.out.cell (World.block_lt_of_cell? w _ hx408_2)).trans hx408_2
             replace p408 := eq_true p408
             replace q408 := eq_true q408
             go_wp2_with (first | ((with_reducible refine gate_dst (N := 8) rfl ?_); refine boxq_ (N := 8) (cs := #[.int .i64 0, .int .i64 0, .int .i64 0]) (t := 69) ?_; intro gb409 hg w34 hbox hb; replace HO_5 := am_ (Kd.R_below (rq_ HO_5.out) hb); have BK409 := am_ (hbox); have GW409 := gz_ hg; have GE409 := gz_ hg; replace HB := bs_ hb; clear hb hbox hg; have hcz35_0 := cq_ BK409.out 0 (.int .i64 0); have hcz35_1 := cq_ BK409.out 1 (.int .i64 0); have hcz35_2 := cq_ BK409.out 2 (.int .i64 0); have hfz35_0 := blk_frozen BK409.out 0; have hfz35_1 := blk_frozen BK409.out 1; have hfz35_2 := blk_frozen BK409.out 2; obtain ⟨Ao36, co36, eo36⟩ := Kd.R_slice HO_5.out; subst eo36; have p418 : 0 ≤ (((rd_T69 l0 x11_1).f1) : Int) := od_; have q418 : ((rd_T69 l0 x11_1).f1) < (x5_1.length : Int) := od_; obtain ⟨ad418, e418, hx418_0⟩ := Kd.at_bool (Kd.R_reads' HO_5.out).2.2 ((rd_T69 l0 x11_1).f1) p418 q418; (try rw [← Nbq24.out] at hx418_0); cases e418; have hn418_0 : ad418.block ≠ gb409 := Kd.own_blk (Kd.R_ne HO_5.out BK409.out (by decide)); have hn418_1 : ad418.block ≠ gb409 := Kd.own_blk (Kd.R_ne HO_5.out BK409.out (by decide)); have hn418_2 : ad418.block ≠ gb409 := Kd.own_blk (Kd.R_ne HO_5.out BK409.out (by decide)); replace hx418_0 := (cell_far (p := ⟨gb409, 0, none⟩) (by first | (rw [add_block]; exact hn418_0) | (show (Addr.add _ _).block ≠ _; rw [add_block]; exact hn418_0) | exact hn418_0) (.int .i64 ((rd_T69 l0 x11_1).f0))).trans hx418_0; replace hx418_0 := (cell_far (p := ⟨gb409, 1, none⟩) (by first | (rw [add_block]; exact hn418_1) | (show (Addr.add _ _).block ≠ _; rw [add_block]; exact hn418_1) | exact hn418_1) (.int .i64 ((rd_T69 l0 x11_1).f1))).trans hx418_0; replace hx418_0 := (cell_far (p := ⟨gb409, 2, none⟩) (by first | (rw [add_block]; exact hn418_2) | (show (Addr.add _ _).block ≠ _; rw [add_block]; exact hn418_2) | exact hn418_2) (.int .i64 ((rd_T69 l0 x11_1).f2))).trans hx418_0; clear hn418_0; clear hn418_1; clear hn418_2; replace p418 := eq_true p418; replace q418 := eq_true q418) | ((with_reducible refine gate_builtin (b := .append) (xs := #[.tmp 55, .tmp 68]) rfl ?_); at_builtin; refine Kd.R_append Kd.bool (w0 := w) w.heap.size rfl (.tmp 55) (.tmp 68) 37 4 (.bool false) 1 rfl Try.underlying37 info4 rfl (by decide) (by omega) (.slice (some ad418) x5_1.length co36) x5_1 false [.bool false] (fun _ => True) (fun _ => False) rfl y54_ ?aP (fun _ hk => hk.elim) ?aF ?aO ?aB ?aS ?aL ?_; (case aP => exact rfl); (case aB => exact (bq_)); (case aF => exact (fun _ _ => trivial)); (case aO => exact (rq_ (Kd.R_mono (Kd.R_far (p := ⟨gb409, 2, none⟩) (Kd.R_far (p := ⟨gb409, 1, none⟩) (Kd.R_far (p := ⟨gb409, 0, none⟩) (Kd.R_types HO_5.out BK409.out (by decide)) (fun _ hk => hk.2) (.int .i64 ((rd_T69 l0 x11_1).f0))) (fun _ hk => hk.2) (.int .i64 ((rd_T69 l0 x11_1).f1))) (fun _ hk => hk.2) (.int .i64 ((rd_T69 l0 x11_1).f2))) (fun _ hk => trivial)))); (case aS => exact (below_size (bq_))); (case aL => have := LMc33.out; omega); intro v424 w37 ho hb hg hat; rw [← Ny423.out] at ho; replace BK409 := am_ (blk_grown (g := gb409) (o := .cells #[.int .i64 ((rd_T69 l0 x11_1).f0), .int .i64 ((rd_T69 l0 x11_1).f1), .int .i64 ((rd_T69 l0 x11_1).f2)] 69 (0, 0)) (bu_ BK409.out) hg (Kd.R_ne HO_5.out BK409.out (by decide))); replace HB := am_ (hb); have HO425 := am_ (ho); clear HO_5; clear ho hb hg hat))
             go_roundg k1
             case measure => have := HK1.out; omega
             case rel => exact ⟨(y423), (x6_1), (wrap64 (x11_1 + 1)), y53_, y53_, H', ⟨by have := HK1.out; omega⟩, ⟨rq_ HO425.out⟩, ⟨bq_⟩⟩
            ·rw [if_neg c33] at H
             exact absurd H (by simp)
          ·rw [if_neg c23] at H
           exact absurd H (by simp)
         ·rw [if_neg c22] at H
          exact absurd H (by simp)
        ·rw [if_neg c21] at H
         have c21b0 : (((rd_T69 l0 x11_1).f0) == 3) = false := beq_eq_false_iff_ne.mpr c21
         have c21b1 : (((rd_T69 l0 x11_1).f0) != 3) = true := bne_iff_ne.mpr c21
         by_cases c38 : ((rd_T69 l0 x11_1).f0) = 4
         ·rw [if_pos c38] at H
          have c38b0 : (((rd_T69 l0 x11_1).f0) == 4) = true := beq_iff_eq.mpr c38
          have c38b1 : (((rd_T69 l0 x11_1).f0) != 4) = false := bne_eq_false_iff_eq.mpr c38
          clear c38
          by_cases c39 : 0 ≤ ((rd_T69 l0 x11_1).f1)
          ·rw [if_pos c39] at H
           have c39b0 : decide (0 ≤ ((rd_T69 l0 x11_1).f1)) = true := decide_eq_true c39
           clear c39
           by_cases c40 : ((rd_T69 l0 x11_1).f1) < (x5_1.length : Int)
           ·rw [if_pos c40] at H
            have c40b0 : decide (((rd_T69 l0 x11_1).f1) < (x5_1.length : Int)) = true := decide_eq_true c40
            clear c40
            obtain ⟨bq41, hbq41⟩ : ∃ b_ : Bool, b_ = (rdOf false x5_1 ((rd_T69 l0 x11_1).f1)) := ⟨_, rfl⟩
            replace H : (if bq41 = true then (if x5_1.length < 140737488355328 then (spec_l8Eval.l0 k1 l1 (x5_1 ++ [true]) x6_1 l0 (l0.length : Int) (wrap64 (x11_1 + 1))) else (none)) else (if 0 ≤ ((rd_T69 l0 x11_1).f2) then (if ((rd_T69 l0 x11_1).f2) < (x5_1.length : Int) then (if x5_1.length < 140737488355328 then (spec_l8Eval.l0 k1 l1 (x5_1 ++ [rdOf false x5_1 ((rd_T69 l0 x11_1).f2)]) x6_1 l0 (l0.length : Int) (wrap64 (x11_1 + 1))) else (none)) else (none)) else (none))) = some r := by rw [← hbq41] at H; exact H
            have Nbq41 := am_ hbq41
            clear hbq41
            by_cases c42 : bq41 = true
            ·subst c42
             have H1 : (if x5_1.length < 140737488355328 then (spec_l8Eval.l0 k1 l1 (x5_1 ++ [true]) x6_1 l0 (l0.length : Int) (wrap64 (x11_1 + 1))) else (none)) = some r := by rw [if_pos rfl] at H; exact H
             clear H
             have H := H1
             clear H1
             by_cases c43 : x5_1.length < 140737488355328
             ·rw [if_pos c43] at H
              have LMc43 := am_ c43
              clear c43
              obtain ⟨y427, hy427⟩ : ∃ y_ : List Bool, y_ = (x5_1 ++ [true]) := ⟨_, rfl⟩
              replace H : (spec_l8Eval.l0 k1 l1 y427 x6_1 l0 (l0.length : Int) (wrap64 (x11_1 + 1))) = some r := by first | (rw [hy427]; with_reducible exact H) | (have H2_ := (Option.bind_some _ _).symm.trans H; rw [hy427]; with_reducible exact H2_) | (have H2_ := (Option.bind_some _ _).symm.trans H; with_reducible exact H2_) | with_reducible exact H | (rw [hy427]; exact H) | exact H
              have Ny427 := am_ hy427
              clear hy427
              have H' := am_ H
              clear H
              have p408 : 0 ≤ (x11_1 : Int) := od_
              have q408 : x11_1 < (l0.length : Int) := od_
              obtain ⟨ad408, e408, hx408_0, hx408_1, hx408_2⟩ := at_T69 HR0.out x11_1 p408 q408
              cases e408
              replace hx408_0 := (HB.out.cell (World.block_lt_of_cell? w _ hx408_0)).trans hx408_0
              replace hx408_1 := (HB.out.cell (World.block_lt_of_cell? w _ hx408_1)).trans hx408_1
              replace hx408_2 := (HB.out.cell (World.block_lt_of_cell? w _ hx408_2)).trans hx408_2
              replace p408 := eq_true p408
              replace q408 := eq_true q408
              go_wp2_with (first | ((with_reducible refine gate_dst (N := 8) rfl ?_); refine boxq_ (N := 8) (cs := #[.int .i64 0, .int .i64 0, .int .i64 0]) (t := 69) ?_; intro gb409 hg w44 hbox hb; replace HO_5 := am_ (Kd.R_below (rq_ HO_5.out) hb); have BK409 := am_ (hbox); have GW409 := gz_ hg; have GE409 := gz_ hg; replace HB := bs_ hb; clear hb hbox hg; have hcz45_0 := cq_ BK409.out 0 (.int .i64 0); have hcz45_1 := cq_ BK409.out 1 (.int .i64 0); have hcz45_2 := cq_ BK409.out 2 (.int .i64 0); have hfz45_0 := blk_frozen BK409.out 0; have hfz45_1 := blk_frozen BK409.out 1; have hfz45_2 := blk_frozen BK409.out 2; obtain ⟨Ao46, co46, eo46⟩ := Kd.R_slice HO_5.out; subst eo46; have p426 : 0 ≤ (((rd_T69 l0 x11_1).f1) : Int) := od_; have q426 : ((rd_T69 l0 x11_1).f1) < (x5_1.length : Int) := od_; obtain ⟨ad426, e426, hx426_0⟩ := Kd.at_bool (Kd.R_reads' HO_5.out).2.2 ((rd_T69 l0 x11_1).f1) p426 q426; (try rw [← Nbq41.out] at hx426_0); cases e426; have hn426_0 : ad426.block ≠ gb409 := Kd.own_blk (Kd.R_ne HO_5.out BK409.out (by decide)); have hn426_1 : ad426.block ≠ gb409 := Kd.own_blk (Kd.R_ne HO_5.out BK409.out (by decide)); have hn426_2 : ad426.block ≠ gb409 := Kd.own_blk (Kd.R_ne HO_5.out BK409.out (by decide)); replace hx426_0 := (cell_far (p := ⟨gb409, 0, none⟩) (by first | (rw [add_block]; exact hn426_0) | (show (Addr.add _ _).block ≠ _; rw [add_block]; exact hn426_0) | exact hn426_0) (.int .i64 ((rd_T69 l0 x11_1).f0))).trans hx426_0; replace hx426_0 := (cell_far (p := ⟨gb409, 1, none⟩) (by first | (rw [add_block]; exact hn426_1) | (show (Addr.add _ _).block ≠ _; rw [add_block]; exact hn426_1) | exact hn426_1) (.int .i64 ((rd_T69 l0 x11_1).f1))).trans hx426_0; replace hx426_0 := (cell_far (p := ⟨gb409, 2, none⟩) (by first | (rw [add_block]; exact hn426_2) | (show (Addr.add _ _).block ≠ _; rw [add_block]; exact hn426_2) | exact hn426_2) (.int .i64 ((rd_T69 l0 x11_1).f2))).trans hx426_0; clear hn426_0; clear hn426_1; clear hn426_2; replace p426 := eq_true p426; replace q426 := eq_true q426) | ((with_reducible refine gate_builtin (b := .append) (xs := #[.tmp 72, .tmp 85]) rfl ?_); at_builtin; refine Kd.R_append Kd.bool (w0 := w) w.heap.size rfl (.tmp 72) (.tmp 85) 37 4 (.bool false) 1 rfl Try.underlying37 info4 rfl (by decide) (by omega) (.slice (some ad426) x5_1.length co46) x5_1 true [.bool true] (fun _ => True) (fun _ => False) rfl y54_ ?aP (fun _ hk => hk.elim) ?aF ?aO ?aB ?aS ?aL ?_; (case aP => exact rfl); (case aB => exact (bq_)); (case aF => exact (fun _ _ => trivial)); (case aO => exact (rq_ (Kd.R_mono (Kd.R_far (p := ⟨gb409, 2, none⟩) (Kd.R_far (p := ⟨gb409, 1, none⟩) (Kd.R_far (p := ⟨gb409, 0, none⟩) (Kd.R_types HO_5.out BK409.out (by decide)) (fun _ hk => hk.2) (.int .i64 ((rd_T69 l0 x11_1).f0))) (fun _ hk => hk.2) (.int .i64 ((rd_T69 l0 x11_1).f1))) (fun _ hk => hk.2) (.int .i64 ((rd_T69 l0 x11_1).f2))) (fun _ hk => trivial)))); (case aS => exact (below_size (bq_))); (case aL => have := LMc43.out; omega); intro v428 w47 ho hb hg hat; rw [← Ny427.out] at ho; replace BK409 := am_ (blk_grown (g := gb409) (o := .cells #[.int .i64 ((rd_T69 l0 x11_1).f0), .int .i64 ((rd_T69 l0 x11_1).f1), .int .i64 ((rd_T69 l0 x11_1).f2)] 69 (0, 0)) (bu_ BK409.out) hg (Kd.R_ne HO_5.out BK409.out (by decide))); replace HB := am_ (hb); have HO429 := am_ (ho); clear HO_5; clear ho hb hg hat))
              go_roundg k1
              case measure => have := HK1.out; omega
              case rel => exact ⟨(y427), (x6_1), (wrap64 (x11_1 + 1)), y53_, y53_, H', ⟨by have := HK1.out; omega⟩, ⟨rq_ HO429.out⟩, ⟨bq_⟩⟩
             ·rw [if_neg c43] at H
              exact absurd H (by simp)
            ·replace c42 := Bool.eq_false_iff.mpr c42
             subst c42
             have H1 : (if 0 ≤ ((rd_T69 l0 x11_1).f2) then (if ((rd_T69 l0 x11_1).f2) < (x5_1.length : Int) then (if x5_1.length < 140737488355328 then (spec_l8Eval.l0 k1 l1 (x5_1 ++ [rdOf false x5_1 ((rd_T69 l0 x11_1).f2)]) x6_1 l0 (l0.length : Int) (wrap64 (x11_1 + 1))) else (none)) else (none)) else (none)) = some r := by rw [if_neg (show ¬ (false = true) by decide)] at H; exact H
             clear H
             have H := H1
             clear H1
             by_cases c48 : 0 ≤ ((rd_T69 l0 x11_1).f2)
             ·rw [if_pos c48] at H
              have c48b0 : decide (0 ≤ ((rd_T69 l0 x11_1).f2)) = true := decide_eq_true c48
              clear c48
              by_cases c49 : ((rd_T69 l0 x11_1).f2) < (x5_1.length : Int)
              ·rw [if_pos c49] at H
               have c49b0 : decide (((rd_T69 l0 x11_1).f2) < (x5_1.length : Int)) = true := decide_eq_true c49
               clear c49
               by_cases c50 : x5_1.length < 140737488355328
               ·rw [if_pos c50] at H
                have LMc50 := am_ c50
                clear c50
                obtain ⟨y431, hy431⟩ : ∃ y_ : List Bool, y_ = (x5_1 ++ [rdOf false x5_1 ((rd_T69 l0 x11_1).f2)]) := ⟨_, rfl⟩
                replace H : (spec_l8Eval.l0 k1 l1 y431 x6_1 l0 (l0.length : Int) (wrap64 (x11_1 + 1))) = some r := by first | (rw [hy431]; with_reducible exact H) | (have H2_ := (Option.bind_some _ _).symm.trans H; rw [hy431]; with_reducible exact H2_) | (have H2_ := (Option.bind_some _ _).symm.trans H; with_reducible exact H2_) | with_reducible exact H | (rw [hy431]; exact H) | exact H
                have Ny431 := am_ hy431
                clear hy431
                have H' := am_ H
                clear H
                have p408 : 0 ≤ (x11_1 : Int) := od_
                have q408 : x11_1 < (l0.length : Int) := od_
                obtain ⟨ad408, e408, hx408_0, hx408_1, hx408_2⟩ := at_T69 HR0.out x11_1 p408 q408
                cases e408
                replace hx408_0 := (HB.out.cell (World.block_lt_of_cell? w _ hx408_0)).trans hx408_0
                replace hx408_1 := (HB.out.cell (World.block_lt_of_cell? w _ hx408_1)).trans hx408_1
                replace hx408_2 := (HB.out.cell (World.block_lt_of_cell? w _ hx408_2)).trans hx408_2
                replace p408 := eq_true p408
                replace q408 := eq_true q408
                go_wp2_with (first | ((with_reducible refine gate_dst (N := 8) rfl ?_); refine boxq_ (N := 8) (cs := #[.int .i64 0, .int .i64 0, .int .i64 0]) (t := 69) ?_; intro gb409 hg w51 hbox hb; replace HO_5 := am_ (Kd.R_below (rq_ HO_5.out) hb); have BK409 := am_ (hbox); have GW409 := gz_ hg; have GE409 := gz_ hg; replace HB := bs_ hb; clear hb hbox hg; have hcz52_0 := cq_ BK409.out 0 (.int .i64 0); have hcz52_1 := cq_ BK409.out 1 (.int .i64 0); have hcz52_2 := cq_ BK409.out 2 (.int .i64 0); have hfz52_0 := blk_frozen BK409.out 0; have hfz52_1 := blk_frozen BK409.out 1; have hfz52_2 := blk_frozen BK409.out 2; obtain ⟨Ao53, co53, eo53⟩ := Kd.R_slice HO_5.out; subst eo53; have p426 : 0 ≤ (((rd_T69 l0 x11_1).f1) : Int) := od_; have q426 : ((rd_T69 l0 x11_1).f1) < (x5_1.length : Int) := od_; obtain ⟨ad426, e426, hx426_0⟩ := Kd.at_bool (Kd.R_reads' HO_5.out).2.2 ((rd_T69 l0 x11_1).f1) p426 q426; (try rw [← Nbq41.out] at hx426_0); cases e426; have hn426_0 : ad426.block ≠ gb409 := Kd.own_blk (Kd.R_ne HO_5.out BK409.out (by decide)); have hn426_1 : ad426.block ≠ gb409 := Kd.own_blk (Kd.R_ne HO_5.out BK409.out (by decide)); have hn426_2 : ad426.block ≠ gb409 := Kd.own_blk (Kd.R_ne HO_5.out BK409.out (by decide)); replace hx426_0 := (cell_far (p := ⟨gb409, 0, none⟩) (by first | (rw [add_block]; exact hn426_0) | (show (Addr.add _ _).block ≠ _; rw [add_block]; exact hn426_0) | exact hn426_0) (.int .i64 ((rd_T69 l0 x11_1).f0))).trans hx426_0; replace hx426_0 := (cell_far (p := ⟨gb409, 1, none⟩) (by first | (rw [add_block]; exact hn426_1) | (show (Addr.add _ _).block ≠ _; rw [add_block]; exact hn426_1) | exact hn426_1) (.int .i64 ((rd_T69 l0 x11_1).f1))).trans hx426_0; replace hx426_0 := (cell_far (p := ⟨gb409, 2, none⟩) (by first | (rw [add_block]; exact hn426_2) | (show (Addr.add _ _).block ≠ _; rw [add_block]; exact hn426_2) | exact hn426_2) (.int .i64 ((rd_T69 l0 x11_1).f2))).trans hx426_0; clear hn426_0; clear hn426_1; clear hn426_2; replace p426 := eq_true p426; replace q426 := eq_true q426; have p430 : 0 ≤ (((rd_T69 l0 x11_1).f2) : Int) := od_; have q430 : ((rd_T69 l0 x11_1).f2) < (x5_1.length : Int) := od_; obtain ⟨ad430, e430, hx430_0⟩ := Kd.at_bool (Kd.R_reads' HO_5.out).2.2 ((rd_T69 l0 x11_1).f2) p430 q430; (try rw [← Nbq41.out] at hx430_0); obtain rfl : ad426 = ad430 := (by injection e430); have hn430_0 : ad426.block ≠ gb409 := Kd.own_blk (Kd.R_ne HO_5.out BK409.out (by decide)); have hn430_1 : ad426.block ≠ gb409 := Kd.own_blk (Kd.R_ne HO_5.out BK409.out (by decide)); have hn430_2 : ad426.block ≠ gb409 := Kd.own_blk (Kd.R_ne HO_5.out BK409.out (by decide)); replace hx430_0 := (cell_far (p := ⟨gb409, 0, none⟩) (by first | (rw [add_block]; exact hn430_0) | (show (Addr.add _ _).block ≠ _; rw [add_block]; exact hn430_0) | exact hn430_0) (.int .i64 ((rd_T69 l0 x11_1).f0))).trans hx430_0; replace hx430_0 := (cell_far (p := ⟨gb409, 1, none⟩) (by first | (rw [add_block]; exact hn430_1) | (show (Addr.add _ _).block ≠ _; rw [add_block]; exact hn430_1) | exact hn430_1) (.int .i64 ((rd_T69 l0 x11_1).f1))).trans hx430_0; replace hx430_0 := (cell_far (p := ⟨gb409, 2, none⟩) (by first | (rw [add_block]; exact hn430_2) | (show (Addr.add _ _).block ≠ _; rw [add_block]; exact hn430_2) | exact hn430_2) (.int .i64 ((rd_T69 l0 x11_1).f2))).trans hx430_0; clear hn430_0; clear hn430_1; clear hn430_2; replace p430 := eq_true p430; replace q430 := eq_true q430) | ((with_reducible refine gate_builtin (b := .append) (xs := #[.tmp 72, .tmp 85]) rfl ?_); at_builtin; refine Kd.R_append Kd.bool (w0 := w) w.heap.size rfl (.tmp 72) (.tmp 85) 37 4 (.bool false) 1 rfl Try.underlying37 info4 rfl (by decide) (by omega) (.slice (some ad426) x5_1.length co53) x5_1 (rdOf false x5_1 ((rd_T69 l0 x11_1).f2)) [.bool (rdOf false x5_1 ((rd_T69 l0 x11_1).f2))] (fun _ => True) (fun _ => False) rfl y54_ ?aP (fun _ hk => hk.elim) ?aF ?aO ?aB ?aS ?aL ?_; (case aP => exact rfl); (case aB => exact (bq_)); (case aF => exact (fun _ _ => trivial)); (case aO => exact (rq_ (Kd.R_mono (Kd.R_far (p := ⟨gb409, 2, none⟩) (Kd.R_far (p := ⟨gb409, 1, none⟩) (Kd.R_far (p := ⟨gb409, 0, none⟩) (Kd.R_types HO_5.out BK409.out (by decide)) (fun _ hk => hk.2) (.int .i64 ((rd_T69 l0 x11_1).f0))) (fun _ hk => hk.2) (.int .i64 ((rd_T69 l0 x11_1).f1))) (fun _ hk => hk.2) (.int .i64 ((rd_T69 l0 x11_1).f2))) (fun _ hk => trivial)))); (case aS => exact (below_size (bq_))); (case aL => have := LMc50.out; omega); intro v432 w54 ho hb hg hat; rw [← Ny431.out] at ho; replace BK409 := am_ (blk_grown (g := gb409) (o := .cells #[.int .i64 ((rd_T69 l0 x11_1).f0), .int .i64 ((rd_T69 l0 x11_1).f1), .int .i64 ((rd_T69 l0 x11_1).f2)] 69 (0, 0)) (bu_ BK409.out) hg (Kd.R_ne HO_5.out BK409.out (by decide))); replace HB := am_ (hb); have HO433 := am_ (ho); clear HO_5; clear ho hb hg hat))
                go_roundg k1
                case measure => have := HK1.out; omega
                case rel => exact ⟨(y431), (x6_1), (wrap64 (x11_1 + 1)), y53_, y53_, H', ⟨by have := HK1.out; omega⟩, ⟨rq_ HO433.out⟩, ⟨bq_⟩⟩
               ·rw [if_neg c50] at H
                exact absurd H (by simp)
              ·rw [if_neg c49] at H
               exact absurd H (by simp)
             ·rw [if_neg c48] at H
              exact absurd H (by simp)
           ·rw [if_neg c40] at H
            exact absurd H (by simp)
          ·rw [if_neg c39] at H
           exact absurd H (by simp)
         ·rw [if_neg c38] at H
          have c38b0 : (((rd_T69 l0 x11_1).f0) == 4) = false := beq_eq_false_iff_ne.mpr c38
          have c38b1 : (((rd_T69 l0 x11_1).f0) != 4) = true := bne_iff_ne.mpr c38
          by_cases c55 : 0 ≤ ((rd_T69 l0 x11_1).f1)
          ·rw [if_pos c55] at H
           have c55b0 : decide (0 ≤ ((rd_T69 l0 x11_1).f1)) = true := decide_eq_true c55
           clear c55
           by_cases c56 : ((rd_T69 l0 x11_1).f1) < (x5_1.length : Int)
           ·rw [if_pos c56] at H
            have c56b0 : decide (((rd_T69 l0 x11_1).f1) < (x5_1.length : Int)) = true := decide_eq_true c56
            clear c56
            by_cases c57 : 0 ≤ ((rd_T69 l0 x11_1).f2)
            ·rw [if_pos c57] at H
             have c57b0 : decide (0 ≤ ((rd_T69 l0 x11_1).f2)) = true := decide_eq_true c57
             clear c57
             by_cases c58 : ((rd_T69 l0 x11_1).f2) < (x5_1.length : Int)
             ·rw [if_pos c58] at H
              have c58b0 : decide (((rd_T69 l0 x11_1).f2) < (x5_1.length : Int)) = true := decide_eq_true c58
              clear c58
              by_cases c59 : x5_1.length < 140737488355328
              ·rw [if_pos c59] at H
               have LMc59 := am_ c59
               clear c59
               obtain ⟨y436, hy436⟩ : ∃ y_ : List Bool, y_ = (x5_1 ++ [((rdOf false x5_1 ((rd_T69 l0 x11_1).f1)) != (rdOf false x5_1 ((rd_T69 l0 x11_1).f2)))]) := ⟨_, rfl⟩
               replace H : (spec_l8Eval.l0 k1 l1 y436 x6_1 l0 (l0.length : Int) (wrap64 (x11_1 + 1))) = some r := by first | (rw [hy436]; with_reducible exact H) | (have H2_ := (Option.bind_some _ _).symm.trans H; rw [hy436]; with_reducible exact H2_) | (have H2_ := (Option.bind_some _ _).symm.trans H; with_reducible exact H2_) | with_reducible exact H | (rw [hy436]; exact H) | exact H
               have Ny436 := am_ hy436
               clear hy436
               have H' := am_ H
               clear H
               have p408 : 0 ≤ (x11_1 : Int) := od_
               have q408 : x11_1 < (l0.length : Int) := od_
               obtain ⟨ad408, e408, hx408_0, hx408_1, hx408_2⟩ := at_T69 HR0.out x11_1 p408 q408
               cases e408
               replace hx408_0 := (HB.out.cell (World.block_lt_of_cell? w _ hx408_0)).trans hx408_0
               replace hx408_1 := (HB.out.cell (World.block_lt_of_cell? w _ hx408_1)).trans hx408_1
               replace hx408_2 := (HB.out.cell (World.block_lt_of_cell? w _ hx408_2)).trans hx408_2
               replace p408 := eq_true p408
               replace q408 := eq_true q408
               try go_wp2_with (first | ((with_reducible refine gate_dst (N := 8) rfl ?_); refine boxq_ (N := 8) (cs := #[.int .i64 0, .int .i64 0, .int .i64 0]) (t := 69) ?_; intro gb409 hg w60 hbox hb; replace HO_5 := am_ (Kd.R_below (rq_ HO_5.out) hb); have BK409 := am_ (hbox); have GW409 := gz_ hg; have GE409 := gz_ hg; replace HB := bs_ hb; clear hb hbox hg; have hcz61_0 := cq_ BK409.out 0 (.int .i64 0); have hcz61_1 := cq_ BK409.out 1 (.int .i64 0); have hcz61_2 := cq_ BK409.out 2 (.int .i64 0); have hfz61_0 := blk_frozen BK409.out 0; have hfz61_1 := blk_frozen BK409.out 1; have hfz61_2 := blk_frozen BK409.out 2))
               have n0_ : Aside0 (Kd.R Kd.bool 4 (((w60.setCell ⟨gb409, 0, none⟩ (.int .i64 ((rd_T69 l0 x11_1).f0))).setCell ⟨gb409, 1, none⟩ (.int .i64 ((rd_T69 l0 x11_1).f1))).setCell ⟨gb409, 2, none⟩ (.int .i64 ((rd_T69 l0 x11_1).f2))) w.heap.size (fun _ => True) u5 x5_1) := ⟨rq_ (Kd.R_mono (Kd.R_far (p := ⟨gb409, 2, none⟩) (Kd.R_far (p := ⟨gb409, 1, none⟩) (Kd.R_far (p := ⟨gb409, 0, none⟩) (Kd.R_types HO_5.out BK409.out (by decide)) (fun _ hk => hk.2) (.int .i64 ((rd_T69 l0 x11_1).f0))) (fun _ hk => hk.2) (.int .i64 ((rd_T69 l0 x11_1).f1))) (fun _ hk => hk.2) (.int .i64 ((rd_T69 l0 x11_1).f2))) (fun _ hk => trivial))⟩
               have n1_ : Aside0 ((((w60.setCell ⟨gb409, 0, none⟩ (.int .i64 ((rd_T69 l0 x11_1).f0))).setCell ⟨gb409, 1, none⟩ (.int .i64 ((rd_T69 l0 x11_1).f1))).setCell ⟨gb409, 2, none⟩ (.int .i64 ((rd_T69 l0 x11_1).f2))).heap[gb409]? = some (.cells #[.int .i64 ((rd_T69 l0 x11_1).f0), .int .i64 ((rd_T69 l0 x11_1).f1), .int .i64 ((rd_T69 l0 x11_1).f2)] 69 (0, 0))) := ⟨by (with_reducible repeat (first | refine blk_drewN ?_ _ | refine blk_drew ?_ | refine blk_alloc ?_ _)); refine blk_put (cs := #[.int .i64 ((rd_T69 l0 x11_1).f0), .int .i64 ((rd_T69 l0 x11_1).f1), .int .i64 0]) ?_ 2 _ rfl; (with_reducible repeat (first | refine blk_drewN ?_ _ | refine blk_drew ?_ | refine blk_alloc ?_ _)); refine blk_put (cs := #[.int .i64 ((rd_T69 l0 x11_1).f0), .int .i64 0, .int .i64 0]) ?_ 1 _ rfl; (with_reducible repeat (first | refine blk_drewN ?_ _ | refine blk_drew ?_ | refine blk_alloc ?_ _)); refine blk_put (cs := #[.int .i64 0, .int .i64 0, .int .i64 0]) ?_ 0 _ rfl; (with_reducible repeat (first | refine blk_drewN ?_ _ | refine blk_drew ?_ | refine blk_alloc ?_ _)); exact BK409.out⟩
               have n2_ : Aside0 (Below w.heap.size w (((w60.setCell ⟨gb409, 0, none⟩ (.int .i64 ((rd_T69 l0 x11_1).f0))).setCell ⟨gb409, 1, none⟩ (.int .i64 ((rd_T69 l0 x11_1).f1))).setCell ⟨gb409, 2, none⟩ (.int .i64 ((rd_T69 l0 x11_1).f2)))) := ⟨bq_⟩
               (try clear HO_5)
               (try clear BK409)
               (try clear HB)
               generalize (((w60.setCell ⟨gb409, 0, none⟩ (.int .i64 ((rd_T69 l0 x11_1).f0))).setCell ⟨gb409, 1, none⟩ (.int .i64 ((rd_T69 l0 x11_1).f1))).setCell ⟨gb409, 2, none⟩ (.int .i64 ((rd_T69 l0 x11_1).f2))) = w62 at n0_ n1_ n2_ ⊢
               have HO_5 := n0_
               have BK409 := n1_
               have HB := n2_
               clear n0_ n1_ n2_
               replace HO_5 := am_ (Kd.R_drew HO_5.out)
               replace BK409 := am_ (blk_drew BK409.out)
               replace HB := am_ (below_drew1 HB.out)
               obtain ⟨Ao64, co64, eo64⟩ := Kd.R_slice HO_5.out
               (first | subst eo64 | (injection eo64 with f1_ f2_ f3_; have f4_ := f1_.symm; have f5_ := f3_.symm; clear f1_ f2_ f3_; subst f4_; subst f5_))
               have p434 : 0 ≤ (((rd_T69 l0 x11_1).f1) : Int) := od_
               have q434 : ((rd_T69 l0 x11_1).f1) < (x5_1.length : Int) := od_
               obtain ⟨ad434, e434, hx434_0⟩ := Kd.at_bool (Kd.R_reads' HO_5.out).2.2 ((rd_T69 l0 x11_1).f1) p434 q434
               cases e434
               replace p434 := eq_true p434
               replace q434 := eq_true q434
               have p435 : 0 ≤ (((rd_T69 l0 x11_1).f2) : Int) := od_
               have q435 : ((rd_T69 l0 x11_1).f2) < (x5_1.length : Int) := od_
               obtain ⟨ad435, e435, hx435_0⟩ := Kd.at_bool (Kd.R_reads' HO_5.out).2.2 ((rd_T69 l0 x11_1).f2) p435 q435
               obtain rfl : ad434 = ad435 := (by injection e435)
               replace p435 := eq_true p435
               replace q435 := eq_true q435
               refine start_ (n := 15) (S := fun w' => w'.cell? ⟨gb409, 0, none⟩ = some (.int .i64 ((rd_T69 l0 x11_1).f0)) ∧ w'.cell? ⟨gb409, 1, none⟩ = some (.int .i64 ((rd_T69 l0 x11_1).f1)) ∧ w'.cell? ⟨gb409, 2, none⟩ = some (.int .i64 ((rd_T69 l0 x11_1).f2)) ∧ w'.cell? (ad434.add (((rd_T69 l0 x11_1).f1)).toNat) = some (.bool (rdOf false x5_1 ((rd_T69 l0 x11_1).f1))) ∧ w'.cell? (ad434.add (((rd_T69 l0 x11_1).f2)).toNat) = some (.bool (rdOf false x5_1 ((rd_T69 l0 x11_1).f2)))) (ds := [12, 13]) #[false, false, false, false, false, false, false, false, false, false, false, false, false, false, false] (by kernel_rfl) rfl rfl ⟨(blk_cell BK409.out 0).trans rfl, (blk_cell BK409.out 1).trans rfl, (blk_cell BK409.out 2).trans rfl, hx434_0, hx435_0⟩ (fun hHeld => ?_); refine with_tabW spec_l8Eval.tab7 spec_l8Eval.bits7 (fun HT_ HW_ => ?_)
               generalize w62.drew = w63 at HO_5 BK409 HB hx434_0 hx435_0 hHeld ⊢
               refine pure_ (i := 0) (N := some 17) (v := ?_) (a' := ?_) #[true, false, false, false, false, false, false, false, false, false, false, false, false, false, false] rfl rfl (any_of HT_.out (by kernel_rfl)) (fun _ _ _ h => h) (Or.inl ⟨by rfl, ?_⟩) ?_ ?_
               rotate_left
               ·intro w'
                go_simp
                with_reducible rfl
               rotate_left
               ·simp only [Act.put, List.setIfInBounds_toArray, List.set_cons_zero, List.set_cons_succ, i64_w, i32_w]
                rfl
               refine pure_ (i := 1) (N := some 18) (v := ?_) (a' := ?_) #[true, true, false, false, false, false, false, false, false, false, false, false, false, false, false] rfl rfl (any_of HT_.out (by kernel_rfl)) (fun _ _ _ h => h) (Or.inl ⟨by rfl, ?_⟩) ?_ ?_
               rotate_left
               ·intro w'
                go_simp
                with_reducible rfl
               rotate_left
               ·simp only [Act.put, List.setIfInBounds_toArray, List.set_cons_zero, List.set_cons_succ, i64_w, i32_w]
                rfl
               refine pure_ (i := 2) (N := some 19) (v := ?_) (a' := ?_) #[true, true, true, false, false, false, false, false, false, false, false, false, false, false, false] rfl rfl (any_of HT_.out (by kernel_rfl)) (fun _ _ _ h => h) (Or.inl ⟨by rfl, ?_⟩) ?_ ?_
               rotate_left
               ·intro w'
                go_simp
                with_reducible rfl
               rotate_left
               ·simp only [Act.put, List.setIfInBounds_toArray, List.set_cons_zero, List.set_cons_succ, i64_w, i32_w]
                rfl
               refine pure_ (i := 6) (N := some 23) (v := ?_) (a' := ?_) #[true, true, true, false, false, false, true, false, false, false, false, false, false, false, false] rfl rfl (any_of HT_.out (by kernel_rfl)) (fun _ _ _ h => h) (Or.inl ⟨by rfl, ?_⟩) ?_ ?_
               rotate_left
               ·intro w'
                go_simp
                with_reducible rfl
               rotate_left
               ·simp only [Act.put, List.setIfInBounds_toArray, List.set_cons_zero, List.set_cons_succ, i64_w, i32_w]
                rfl
               refine pure_ (i := 7) (N := some 24) (v := ?_) (a' := ?_) #[true, true, true, false, false, false, true, true, false, false, false, false, false, false, false] rfl rfl (any_of HT_.out (by kernel_rfl)) (fun _ _ _ h => h) (Or.inl ⟨by rfl, ?_⟩) ?_ ?_
               rotate_left
               ·intro w'
                go_simp
                with_reducible rfl
               rotate_left
               ·simp only [Act.put, List.setIfInBounds_toArray, List.set_cons_zero, List.set_cons_succ, i64_w, i32_w]
                rfl
               refine take_ (i := 3) (N := some 20) (v := ?_) (a' := ?_) #[true, true, true, true, false, false, true, true, false, false, false, false, false, false, false] rfl rfl (take_ofW HT_.out HW_.out (by kernel_rfl)) (fun _ _ _ h => h) (Or.inl ⟨by rfl, ?_⟩) hHeld ?_ ?_
               rotate_left
               ·rintro w' ⟨s0, s1, s2, s3, s4⟩
                go_simp
                with_reducible rfl
               rotate_left
               ·simp only [Act.put, List.setIfInBounds_toArray, List.set_cons_zero, List.set_cons_succ, i64_w, i32_w]
                rfl
               refine pure_ (i := 4) (N := some 21) (v := ?_) (a' := ?_) #[true, true, true, true, true, false, true, true, false, false, false, false, false, false, false] rfl rfl (any_of HT_.out (by kernel_rfl)) (fun _ _ _ h => h) (Or.inl ⟨by rfl, ?_⟩) ?_ ?_
               rotate_left
               ·intro w'
                go_simp
                with_reducible rfl
               rotate_left
               ·simp only [Act.put, List.setIfInBounds_toArray, List.set_cons_zero, List.set_cons_succ, i64_w, i32_w]
                rfl
               refine take_ (i := 5) (N := some 22) (v := ?_) (a' := ?_) #[true, true, true, true, true, true, true, true, false, false, false, false, false, false, false] rfl rfl (take_ofW HT_.out HW_.out (by kernel_rfl)) (fun _ _ _ h => h) (Or.inl ⟨by rfl, ?_⟩) hHeld ?_ ?_
               rotate_left
               ·rintro w' ⟨s0, s1, s2, s3, s4⟩
                go_simp
                with_reducible rfl
               rotate_left
               ·simp only [Act.put, List.setIfInBounds_toArray, List.set_cons_zero, List.set_cons_succ, i64_w, i32_w]
                rfl
               refine take_ (i := 8) (N := some 25) (v := ?_) (a' := ?_) #[true, true, true, true, true, true, true, true, true, false, false, false, false, false, false] rfl rfl (take_ofW HT_.out HW_.out (by kernel_rfl)) (fun _ _ _ h => h) (Or.inl ⟨by rfl, ?_⟩) hHeld ?_ ?_
               rotate_left
               ·rintro w' ⟨s0, s1, s2, s3, s4⟩
                go_simp
                with_reducible rfl
               rotate_left
               ·simp only [Act.put, List.setIfInBounds_toArray, List.set_cons_zero, List.set_cons_succ, i64_w, i32_w]
                rfl
               refine pure_ (i := 9) (N := some 26) (v := ?_) (a' := ?_) #[true, true, true, true, true, true, true, true, true, true, false, false, false, false, false] rfl rfl (any_of HT_.out (by kernel_rfl)) (fun _ _ _ h => h) (Or.inl ⟨by rfl, ?_⟩) ?_ ?_
               rotate_left
               ·intro w'
                go_simp
                with_reducible rfl
               rotate_left
               ·simp only [Act.put, List.setIfInBounds_toArray, List.set_cons_zero, List.set_cons_succ, i64_w, i32_w]
                rfl
               refine take_ (i := 10) (N := some 27) (v := ?_) (a' := ?_) #[true, true, true, true, true, true, true, true, true, true, true, false, false, false, false] rfl rfl (take_ofW HT_.out HW_.out (by kernel_rfl)) (fun _ _ _ h => h) (Or.inl ⟨by rfl, ?_⟩) hHeld ?_ ?_
               rotate_left
               ·rintro w' ⟨s0, s1, s2, s3, s4⟩
                go_simp
                with_reducible rfl
               rotate_left
               ·simp only [Act.put, List.setIfInBounds_toArray, List.set_cons_zero, List.set_cons_succ, i64_w, i32_w]
                rfl
               refine pure_ (i := 11) (N := some 28) (v := ?_) (a' := ?_) #[true, true, true, true, true, true, true, true, true, true, true, true, false, false, false] rfl rfl (any_of HT_.out (by kernel_rfl)) (fun _ _ _ h => h) (Or.inl ⟨by rfl, ?_⟩) ?_ ?_
               rotate_left
               ·intro w'
                go_simp
                with_reducible rfl
               rotate_left
               ·simp only [Act.put, List.setIfInBounds_toArray, List.set_cons_zero, List.set_cons_succ, i64_w, i32_w]
                rfl
               refine last_ (i := 12) (N := some 29) #[true, true, true, true, true, true, true, true, true, true, true, true, true, false, false] rfl rfl (one_of HT_.out (by kernel_rfl)) (by decide) (fun K hK => ?_)
               refine value_ (w1 := ?_) (v := ?_) (by rfl) rfl ?_ ?_
               rotate_left 2
               ·go_simp
                constructor
                ·rfl
                ·rfl
               refine hK.out _ _ ?_
               clear hK K
               refine norm_ (a' := ?_) ?_ ?_
               rotate_left
               ·show Act.put _ (some 29) _ = _
                simp only [Act.put, List.setIfInBounds_toArray, List.set_cons_zero, List.set_cons_succ, i64_w, i32_w]
                rfl
               refine last_ (i := 13) (N := some 30) #[true, true, true, true, true, true, true, true, true, true, true, true, true, true, false] rfl rfl (one_of HT_.out (by kernel_rfl)) (by decide) (fun K hK => ?_)
               refine Kd.R_append_step Kd.bool (w0 := w) w.heap.size (by rfl) (.tmp 17) (.tmp 29) 37 4 (.bool false) 1 rfl Try.underlying37 info4 rfl (by decide) (by omega) (.slice (some ad434) x5_1.length co64) x5_1 ((rdOf false x5_1 ((rd_T69 l0 x11_1).f1)) != (rdOf false x5_1 ((rd_T69 l0 x11_1).f2))) [.bool ((rdOf false x5_1 ((rd_T69 l0 x11_1).f1)) != (rdOf false x5_1 ((rd_T69 l0 x11_1).f2)))] (fun _ => True) (fun _ => False) rfl rfl ?aP (fun _ hk => hk.elim) ?aF ?aO ?aB ?aS ?aL ?_
               (case aP => exact rfl)
               (case aB => exact (bq_))
               (case aF => exact (fun _ _ => trivial))
               (case aO => exact (rq_ HO_5.out))
               (case aS => exact (below_size (bq_)))
               (case aL => have := LMc59.out; omega)
               intro v437 w65 ho hb hg hat
               rw [← Ny436.out] at ho
               replace BK409 := am_ (blk_grown (bk_ BK409.out) hg (Kd.R_ne HO_5.out BK409.out (by decide)))
               replace HB := am_ (hb)
               have HO438 := am_ (ho)
               clear HO_5 ho hb hg hat
               refine hK.out _ _ ?_
               clear hK K
               refine norm_ (a' := ?_) ?_ ?_
               rotate_left
               ·show Act.put _ (some 30) _ = _
                simp only [Act.put, List.setIfInBounds_toArray, List.set_cons_zero, List.set_cons_succ, i64_w, i32_w]
                rfl
               refine pure_ (i := 14) (N := some 5) (v := ?_) (a' := ?_) #[true, true, true, true, true, true, true, true, true, true, true, true, true, true, true] rfl rfl (any_of HT_.out (by kernel_rfl)) (fun _ _ _ h => h) (Or.inl ⟨by rfl, ?_⟩) ?_ ?_
               rotate_left
               ·intro w'
                go_simp
                with_reducible rfl
               rotate_left
               ·simp only [Act.put, List.setIfInBounds_toArray, List.set_cons_zero, List.set_cons_succ, i64_w, i32_w]
                rfl
               refine done_ (done_of HT_.out (by kernel_rfl)) ?_
               try go_wp2
               go_roundg k1
               case measure => have := HK1.out; omega
               case rel => exact ⟨(y436), (x6_1), (wrap64 (x11_1 + 1)), y53_, y53_, H', ⟨by have := HK1.out; omega⟩, ⟨rq_ HO438.out⟩, ⟨bq_⟩⟩
              ·rw [if_neg c59] at H
               exact absurd H (by simp)
             ·rw [if_neg c58] at H
              exact absurd H (by simp)
            ·rw [if_neg c57] at H
             exact absurd H (by simp)
           ·rw [if_neg c56] at H
            exact absurd H (by simp)
          ·rw [if_neg c55] at H
           exact absurd H (by simp)
     ·rw [if_neg c5] at H
      exact absurd H (by simp)
    ·rw [if_neg c4] at H
     exact absurd H (by simp)
   ·rw [if_neg c3] at H
    have c3b0 : decide (x11_1 < (l0.length : Int)) = false := decide_eq_false c3
    clear c3
    obtain rfl := Option.some.inj H
    go_wp2
    go_ret
    exact ⟨_, by first | rfl | (simp [errW_none, errW_some] <;> rfl) | (simp [*, errW_none, errW_some] <;> rfl), rq_ HO_5.out, bq_⟩
def spec_EvalGates.f (k : Nat) (l0 : List (S69)) (l1 : List Bool) : Option (List Bool × Bool) := (spec_GoodGates.f k l0).bind fun t439 => (if t439 = true then ((spec_l8Inputs.f k l0).bind fun t440 => (if (l1.length : Int) = (t440.length : Int) then ((spec_l8Eval.f k l0 l1).bind fun t443 => (some (t443, true))) else (some (([] : List Bool), false)))) else (some (([] : List Bool), false)))
set_option maxHeartbeats 8000000 in
set_option maxRecDepth 100000 in
theorem spec_EvalGates.calls (k : Nat) (A0 : Option Addr) (c0 : Nat) (l0 : List (S69)) (A1 : Option Addr) (c1 : Nat) (l1 : List Bool) (r1 : List Bool) (r2 : Bool) (w : World) (hr0 : Kd.C k69 w A0 l0.length l0) (hc0 : l0.length ≤ c0) (hr1 : Kd.C Kd.bool w A1 l1.length l1) (hc1 : l1.length ≤ c1) (h : spec_EvalGates.f k l0 l1 = some (r1, r2)) :
  Calls Try.prog 20 #[.slice A0 l0.length c0, .slice A1 l1.length c1] w fun e w' => ∃ v0_ : Value, e = .returned (.tuple #[v0_, .bool r2]) ∧ Kd.R Kd.bool 4 w' w.heap.size (fun _ => True) v0_ r1 ∧ Below w.heap.size w w' := by
 have HR0 := am_ hr0
 have HC0 := am_ hc0
 clear hr0 hc0
 have HR1 := am_ hr1
 have HC1 := am_ hc1
 clear hr1 hc1
 have HB := am_ (Below.refl w.heap.size w)
 have H : ((spec_GoodGates.f k l0).bind fun t439 => (if t439 = true then ((spec_l8Inputs.f k l0).bind fun t440 => (if (l1.length : Int) = (t440.length : Int) then ((spec_l8Eval.f k l0 l1).bind fun t443 => (some (t443, true))) else (some (([] : List Bool), false)))) else (some (([] : List Bool), false)))) = some (r1, r2) := h
 clear h
 replace H := Option.bind_eq_some_iff.mp H
 obtain ⟨t439, A30, H⟩ := H
 replace H : (if t439 = true then ((spec_l8Inputs.f k l0).bind fun t440 => (if (l1.length : Int) = (t440.length : Int) then ((spec_l8Eval.f k l0 l1).bind fun t443 => (some (t443, true))) else (some (([] : List Bool), false)))) else (some (([] : List Bool), false))) = some (r1, r2) := H
 have A3 := am_ A30
 clear A30
 by_cases c4 : t439 = true
 ·subst c4
  have H1 : ((spec_l8Inputs.f k l0).bind fun t440 => (if (l1.length : Int) = (t440.length : Int) then ((spec_l8Eval.f k l0 l1).bind fun t443 => (some (t443, true))) else (some (([] : List Bool), false)))) = some (r1, r2) := by rw [if_pos rfl] at H; exact H
  clear H
  have H := H1
  clear H1
  replace H := Option.bind_eq_some_iff.mp H
  obtain ⟨t440, A50, H⟩ := H
  replace H : (if (l1.length : Int) = (t440.length : Int) then ((spec_l8Eval.f k l0 l1).bind fun t443 => (some (t443, true))) else (some (([] : List Bool), false))) = some (r1, r2) := H
  have A5 := am_ A50
  clear A50
  by_cases c6 : (l1.length : Int) = (t440.length : Int)
  ·rw [if_pos c6] at H
   have c6b0 : ((l1.length : Int) == (t440.length : Int)) = true := beq_iff_eq.mpr c6
   have c6b1 : ((l1.length : Int) != (t440.length : Int)) = false := bne_eq_false_iff_eq.mpr c6
   have c6b2 : (l1.length == t440.length) = true := by first | simpa using c6 | (simp at c6 ⊢; omega)
   clear c6
   replace H := Option.bind_eq_some_iff.mp H
   obtain ⟨t443, A70, H⟩ := H
   replace H : (some (t443, true)) = some (r1, r2) := H
   have A7 := am_ A70
   clear A70
   simp only [Option.some.injEq, Prod.mk.injEq] at H
   obtain ⟨rfl, rfl⟩ := H
   go_enter Try.func20, Try.ntmps20
   go_wp2_with (first | ((with_reducible refine gl_ 41 rfl ?_); refine goesM_ (some 7) Try.func41 #[.slice A0 l0.length c0] ?_; (with_reducible refine (spec_GoodGates.calls k _ _ l0 true _ ?side1 ?side2 A3.out).mono ?_); (case side1 => exact cm_ HR0.out); (case side2 => exact HC0.out); rintro e w8 ⟨rfl, hb⟩; refine ⟨_, rfl, ?_⟩; replace HB := bs_ hb; (try clear hb)) | (go_at_call 56; (with_reducible refine (spec_l8Inputs.calls k _ _ l0 t440 _ ?side1 ?side2 A5.out).mono ?_); (case side1 => exact cm_ (Kd.C_below HR0.out HB.out)); (case side2 => exact HC0.out); rintro e w9 ⟨v441, rfl, ho0, hb⟩; have HO442 := am_ (Kd.R_lower ho0 (below_size (bq_))); replace HB := bs_ hb; (try clear hb); (try clear ho0); obtain ⟨Ao10, co10, eo10⟩ := Kd.R_slice HO442.out; subst eo10) | ((with_reducible refine gl_ 57 rfl ?_); refine goesM_ (some 19) Try.func57 #[.slice A0 l0.length c0, .slice A1 l1.length c1] ?_; (with_reducible refine (spec_l8Eval.calls k _ _ l0 _ _ l1 t443 _ ?side1 ?side2 ?side3 ?side4 A7.out).mono ?_); (case side1 => exact cm_ (Kd.C_below HR0.out HB.out)); (case side2 => exact HC0.out); (case side3 => exact cm_ (Kd.C_below HR1.out HB.out)); (case side4 => exact HC1.out); rintro e w11 ⟨v444, rfl, ho0, hb⟩; refine ⟨_, rfl, ?_⟩; replace HO442 := am_ (Kd.R_below (rq_ HO442.out) hb); have HO445 := am_ (Kd.R_lower ho0 (below_size (bq_))); replace HB := bs_ hb; (try clear hb); (try clear ho0)))
   go_ret2
   exact ⟨_, by first | rfl | (simp [errW_none, errW_some] <;> rfl) | (simp [*, errW_none, errW_some] <;> rfl), rq_ HO445.out, bq_⟩
  ·rw [if_neg c6] at H
   have c6b0 : ((l1.length : Int) == (t440.length : Int)) = false := beq_eq_false_iff_ne.mpr c6
   have c6b1 : ((l1.length : Int) != (t440.length : Int)) = true := bne_iff_ne.mpr c6
   have c6b2 : (l1.length == t440.length) = false := by first | simpa using c6 | (simp at c6 ⊢; omega)
   simp only [Option.some.injEq, Prod.mk.injEq] at H
   obtain ⟨rfl, rfl⟩ := H
   go_enter Try.func20, Try.ntmps20
   go_wp2_with (first | ((with_reducible refine gl_ 41 rfl ?_); refine goesM_ (some 7) Try.func41 #[.slice A0 l0.length c0] ?_; (with_reducible refine (spec_GoodGates.calls k _ _ l0 true _ ?side1 ?side2 A3.out).mono ?_); (case side1 => exact cm_ HR0.out); (case side2 => exact HC0.out); rintro e w12 ⟨rfl, hb⟩; refine ⟨_, rfl, ?_⟩; replace HB := bs_ hb; (try clear hb)) | (go_at_call 56; (with_reducible refine (spec_l8Inputs.calls k _ _ l0 t440 _ ?side1 ?side2 A5.out).mono ?_); (case side1 => exact cm_ (Kd.C_below HR0.out HB.out)); (case side2 => exact HC0.out); rintro e w13 ⟨v441, rfl, ho0, hb⟩; have HO442 := am_ (Kd.R_lower ho0 (below_size (bq_))); replace HB := bs_ hb; (try clear hb); (try clear ho0); obtain ⟨Ao14, co14, eo14⟩ := Kd.R_slice HO442.out; subst eo14))
   go_ret2
   exact ⟨_, by first | rfl | (simp [errW_none, errW_some] <;> rfl) | (simp [*, errW_none, errW_some] <;> rfl), by first | exact Kd.R_nil _ _ _ _ _ | exact Kd.N_nil _ _ _ _ _ | exact Kd.V_nil _ _ _ _ _ | exact Kd.Q_nil _ _ _ _ _ | exact Kd.S_nil _ _ _ _ _, bq_⟩
 ·replace c4 := Bool.eq_false_iff.mpr c4
  subst c4
  have H1 : (some (([] : List Bool), false)) = some (r1, r2) := by rw [if_neg (show ¬ (false = true) by decide)] at H; exact H
  clear H
  have H := H1
  clear H1
  simp only [Option.some.injEq, Prod.mk.injEq] at H
  obtain ⟨rfl, rfl⟩ := H
  go_enter Try.func20, Try.ntmps20
  go_wp2_with (first | ((with_reducible refine gl_ 41 rfl ?_); refine goesM_ (some 7) Try.func41 #[.slice A0 l0.length c0] ?_; (with_reducible refine (spec_GoodGates.calls k _ _ l0 false _ ?side1 ?side2 A3.out).mono ?_); (case side1 => exact cm_ HR0.out); (case side2 => exact HC0.out); rintro e w15 ⟨rfl, hb⟩; refine ⟨_, rfl, ?_⟩; replace HB := bs_ hb; (try clear hb)))
  go_ret2
  exact ⟨_, by first | rfl | (simp [errW_none, errW_some] <;> rfl) | (simp [*, errW_none, errW_some] <;> rfl), by first | exact Kd.R_nil _ _ _ _ _ | exact Kd.N_nil _ _ _ _ _ | exact Kd.V_nil _ _ _ _ _ | exact Kd.Q_nil _ _ _ _ _ | exact Kd.S_nil _ _ _ _ _, bq_⟩
def laws_sameBools.l0 : Nat → List Bool → List Bool → Int → Int → Option (Bool)
 | 0, _, _, _, _ => none
 | k + 1, x0, x1, x12, x13 => if x13 < x12 then (if 0 ≤ x13 then (if x13 < (x0.length : Int) then (if x13 < (x1.length : Int) then (if ((rdOf false x0 x13) != (rdOf false x1 x13)) = true then (some false) else (laws_sameBools.l0 k x0 x1 x12 (wrap64 (x13 + 1)))) else (none)) else (none)) else (none)) else (some true)
def laws_sameBools.f (k : Nat) (l0 : List Bool) (l1 : List Bool) : Option (Bool) := if (l0.length : Int) = (l1.length : Int) then (laws_sameBools.l0 k l0 l1 (l0.length : Int) 0) else (some false)
set_option maxHeartbeats 8000000 in
set_option maxRecDepth 100000 in
theorem laws_sameBools.calls (k : Nat) (A0 : Option Addr) (c0 : Nat) (l0 : List Bool) (A1 : Option Addr) (c1 : Nat) (l1 : List Bool) (r : Bool) (w : World) (hr0 : Kd.C Kd.bool w A0 l0.length l0) (hc0 : l0.length ≤ c0) (hr1 : Kd.C Kd.bool w A1 l1.length l1) (hc1 : l1.length ≤ c1) (h : laws_sameBools.f k l0 l1 = some r) :
  Calls Try.prog 21 #[.slice A0 l0.length c0, .slice A1 l1.length c1] w fun e w' => e = .returned (.bool r) ∧ Drawn0 w w' := by
 have HR0 := am_ hr0
 have HC0 := am_ hc0
 clear hr0 hc0
 have HR1 := am_ hr1
 have HC1 := am_ hc1
 clear hr1 hc1
 have H : (if (l0.length : Int) = (l1.length : Int) then (laws_sameBools.l0 k l0 l1 (l0.length : Int) 0) else (some false)) = some r := h
 clear h
 by_cases c3 : (l0.length : Int) = (l1.length : Int)
 ·rw [if_pos c3] at H
  have c3b0 : ((l0.length : Int) == (l1.length : Int)) = true := beq_iff_eq.mpr c3
  have c3b1 : ((l0.length : Int) != (l1.length : Int)) = false := bne_eq_false_iff_eq.mpr c3
  have c3b2 : (l0.length == l1.length) = true := by first | simpa using c3 | (simp at c3 ⊢; omega)
  clear c3
  have H' := am_ H
  clear H
  go_enter Try.func21, Try.ntmps21
  go_wp2
  repeat (go_quiet (fail); try go_wp2)
  go_loopg [13] k (fun kq v13 w' => ∃ (x13_1 : Int), v13 = .int .i64 x13_1 ∧ Aside0 (laws_sameBools.l0 kq l0 l1 (l0.length : Int) x13_1 = some r) ∧ Aside0 (kq ≤ k) ∧ Drawn0 w w')
  case atStart => exact ⟨(0), y53_, H', ⟨Nat.le_refl _⟩, by repeat (first | exact Drawn0.refl _ | apply Drawn0.step)⟩
  case round =>
   clear H'
   try clear c1
   try clear c2
   try clear p2
   try clear c3
   try clear c3b0
   try clear c3b1
   try clear c3b2
   obtain ⟨x13_1, rfl, HA, HK1, ⟨m1, rfl⟩⟩ := hrel
   cases gk with
   | zero => exact absurd HA.out (by simp [laws_sameBools.l0])
   | succ k1 =>
    have H := HA.out
    clear HA
    simp only [laws_sameBools.l0] at H
    by_cases c4 : x13_1 < (l0.length : Int)
    ·rw [if_pos c4] at H
     have c4b0 : decide (x13_1 < (l0.length : Int)) = true := decide_eq_true c4
     clear c4
     by_cases c5 : 0 ≤ x13_1
     ·rw [if_pos c5] at H
      have c5b0 : decide (0 ≤ x13_1) = true := decide_eq_true c5
      clear c5
      by_cases c6 : x13_1 < (l0.length : Int)
      ·rw [if_pos c6] at H
       have c6b0 : decide (x13_1 < (l0.length : Int)) = true := decide_eq_true c6
       clear c6
       by_cases c7 : x13_1 < (l1.length : Int)
       ·rw [if_pos c7] at H
        have c7b0 : decide (x13_1 < (l1.length : Int)) = true := decide_eq_true c7
        clear c7
        by_cases c8 : ((rdOf false l0 x13_1) != (rdOf false l1 x13_1)) = true
        ·rw [if_pos c8] at H
         have c8b0 : ((rdOf false l0 x13_1) != (rdOf false l1 x13_1)) = true := c8
         (try (have c8b1 : decide ((rdOf false l0 x13_1) = (rdOf false l1 x13_1)) = false := by simpa using c8))
         (try (have c8b2 : ((rdOf false l0 x13_1) == (rdOf false l1 x13_1)) = false := by simpa using c8))
         (try (have c8b3 : ¬ ((rdOf false l0 x13_1) = (rdOf false l1 x13_1)) := by simpa using c8))
         clear c8
         obtain rfl := Option.some.inj H
         have p446 : 0 ≤ (x13_1 : Int) := od_
         have q446 : x13_1 < (l0.length : Int) := od_
         obtain ⟨ad446, e446, hx446_0⟩ := Kd.at_bool HR0.out x13_1 p446 q446
         cases e446
         replace p446 := eq_true p446
         replace q446 := eq_true q446
         have p447 : 0 ≤ (x13_1 : Int) := od_
         have q447 : x13_1 < (l1.length : Int) := od_
         obtain ⟨ad447, e447, hx447_0⟩ := Kd.at_bool HR1.out x13_1 p447 q447
         cases e447
         replace p447 := eq_true p447
         replace q447 := eq_true q447
         go_wp2
         repeat (go_quiet (fail); try go_wp2)
         go_ret
         exact ⟨by first | rfl | (simp; done) | (simp [*]; done), by repeat (first | exact Drawn0.refl _ | apply Drawn0.step)⟩
        ·rw [if_neg c8] at H
         have c8b0 : ((rdOf false l0 x13_1) != (rdOf false l1 x13_1)) = false := by simpa using c8
         (try (have c8b1 : decide ((rdOf false l0 x13_1) = (rdOf false l1 x13_1)) = true := by simpa using c8))
         (try (have c8b2 : ((rdOf false l0 x13_1) == (rdOf false l1 x13_1)) = true := by simpa using c8))
         clear c8
         have H' := am_ H
         clear H
         have p446 : 0 ≤ (x13_1 : Int) := od_
         have q446 : x13_1 < (l0.length : Int) := od_
         obtain ⟨ad446, e446, hx446_0⟩ := Kd.at_bool HR0.out x13_1 p446 q446
         cases e446
         replace p446 := eq_true p446
         replace q446 := eq_true q446
         have p447 : 0 ≤ (x13_1 : Int) := od_
         have q447 : x13_1 < (l1.length : Int) := od_
         obtain ⟨ad447, e447, hx447_0⟩ := Kd.at_bool HR1.out x13_1 p447 q447
         cases e447
         replace p447 := eq_true p447
         replace q447 := eq_true q447
         go_wp2
         repeat (go_quiet (fail); try go_wp2)
         go_roundg k1
         case measure => have := HK1.out; omega
         case rel => exact ⟨(wrap64 (x13_1 + 1)), y53_, H', ⟨by have := HK1.out; omega⟩, by repeat (first | exact Drawn0.refl _ | apply Drawn0.step)⟩
       ·rw [if_neg c7] at H
        exact absurd H (by simp)
      ·rw [if_neg c6] at H
       exact absurd H (by simp)
     ·rw [if_neg c5] at H
      exact absurd H (by simp)
    ·rw [if_neg c4] at H
     have c4b0 : decide (x13_1 < (l0.length : Int)) = false := decide_eq_false c4
     clear c4
     obtain rfl := Option.some.inj H
     go_wp2
     repeat (go_quiet (fail); try go_wp2)
     go_ret
     exact ⟨by first | rfl | (simp; done) | (simp [*]; done), by repeat (first | exact Drawn0.refl _ | apply Drawn0.step)⟩
 ·rw [if_neg c3] at H
  have c3b0 : ((l0.length : Int) == (l1.length : Int)) = false := beq_eq_false_iff_ne.mpr c3
  have c3b1 : ((l0.length : Int) != (l1.length : Int)) = true := bne_iff_ne.mpr c3
  have c3b2 : (l0.length == l1.length) = false := by first | simpa using c3 | (simp at c3 ⊢; omega)
  obtain rfl := Option.some.inj H
  go_enter Try.func21, Try.ntmps21
  go_wp2
  repeat (go_quiet (fail); try go_wp2)
  go_ret
  exact ⟨by first | rfl | (simp; done) | (simp [*]; done), by repeat (first | exact Drawn0.refl _ | apply Drawn0.step)⟩
end Go.Proofs.Ytgahidilhjijiaa.PGG
