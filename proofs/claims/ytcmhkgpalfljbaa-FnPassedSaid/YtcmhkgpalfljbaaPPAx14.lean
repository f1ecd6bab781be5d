import Derived.Test.YtcmhkgpalfljbaaPPAx0
namespace Go.Proofs.Ytcmhkgpalfljbaa.PPA
open Go.RowKit Go.Proofs.YtcmhkgpalfljbaaW.PrintWords Go.Proofs.YtcmhkgpalfljbaaW.PrintLast Go.Proofs.YtcmhkgpalfljbaaW.PrintMore
attribute [local go_sem] max2_int min2_int max_two min_two max_three min_three max_four min_four   -- for this text's walks alone
set_option linter.unusedVariables false
set_option linter.unusedSimpArgs false
def impl_NewMachine.f  : Option (Int × List Int × List Int × List Bool) := if 6 ≤ 35184372088832 then (if 16 ≤ 35184372088832 then (if 16 ≤ 281474976710656 then (some (0, (List.replicate 6 0), (List.replicate 16 0), (List.replicate 16 false))) else (none)) else (none)) else (none)
set_option maxHeartbeats 8000000 in
set_option maxRecDepth 100000 in
theorem impl_NewMachine.calls  (r1 : Int) (r2 : List Int) (r3 : List Int) (r4 : List Bool) (w : World) (h : impl_NewMachine.f  = some (r1, r2, r3, r4)) :
  Calls Try.prog 82 #[] w fun e w' => ∃ v1_ v2_ v3_ : Value, e = .returned (.agg #[.int .i64 r1, v1_, v2_, v3_]) ∧ Kd.R (Kd.int .i64) 3 w' w.heap.size (fun k_ => some k_ ≠ (v2_ : Value).ownBlock) v1_ r2 ∧ Kd.R (Kd.int .i64) 3 w' w.heap.size (fun k_ => some k_ ≠ (v1_ : Value).ownBlock) v2_ r3 ∧ Kd.R Kd.bool 4 w' w.heap.size (fun _ => True) v3_ r4 ∧ Below w.heap.size w w' := by
 have hu81 := Try.underlying81
 have HB := am_ (Below.refl w.heap.size w)
 have H : (if 6 ≤ 35184372088832 then (if 16 ≤ 35184372088832 then (if 16 ≤ 281474976710656 then (some (0, (List.replicate 6 0), (List.replicate 16 0), (List.replicate 16 false))) else (none)) else (none)) else (none)) = some (r1, r2, r3, r4) := h
 clear h
 by_cases c1 : 6 ≤ 35184372088832
 ·rw [if_pos c1] at H
  have c1b0 := eq_true c1
  have c1b1 : decide (6 ≤ 35184372088832) = true := decide_eq_true c1
  clear c1
  obtain ⟨y468, hy468⟩ : ∃ y_ : List Int, y_ = (List.replicate 6 0) := ⟨_, rfl⟩
  replace H : (if 16 ≤ 35184372088832 then (if 16 ≤ 281474976710656 then (some (0, y468, (List.replicate 16 0), (List.replicate 16 false))) else (none)) else (none)) = some (r1, r2, r3, r4) := by first | (rw [hy468]; with_reducible exact H) | (have H2_ := (Option.bind_some _ _).symm.trans H; rw [hy468]; with_reducible exact H2_) | (have H2_ := (Option.bind_some _ _).symm.trans H; with_reducible exact H2_) | with_reducible exact H | (rw [hy468]; exact H) | exact H
  have Ny468 := am_ hy468
  clear hy468
  by_cases c2 : 16 ≤ 35184372088832
  ·rw [if_pos c2] at H
   have c2b0 := eq_true c2
   have c2b1 : decide (16 ≤ 35184372088832) = true := decide_eq_true c2
   clear c2
   obtain ⟨y471, hy471⟩ : ∃ y_ : List Int, y_ = (List.replicate 16 0) := ⟨_, rfl⟩
   replace H : (if 16 ≤ 281474976710656 then (some (0, y468, y471, (List.replicate 16 false))) else (none)) = some (r1, r2, r3, r4) := by first | (rw [hy471]; with_reducible exact H) | (have H2_ := (Option.bind_some _ _).symm.trans H; rw [hy471]; with_reducible exact H2_) | (have H2_ := (Option.bind_some _ _).symm.trans H; with_reducible exact H2_) | with_reducible exact H | (rw [hy471]; exact H) | exact H
   have Ny471 := am_ hy471
   clear hy471
   by_cases c3 : 16 ≤ 281474976710656
   ·rw [if_pos c3] at H
    have c3b0 := eq_true c3
    have c3b1 : decide (16 ≤ 281474976710656) = true := decide_eq_true c3
    clear c3
    obtain ⟨y474, hy474⟩ : ∃ y_ : List Bool, y_ = (List.replicate 16 false) := ⟨_, rfl⟩
    replace H : (some (0, y468, y471, y474)) = some (r1, r2, r3, r4) := by first | (rw [hy474]; with_reducible exact H) | (have H2_ := (Option.bind_some _ _).symm.trans H; rw [hy474]; with_reducible exact H2_) | (have H2_ := (Option.bind_some _ _).symm.trans H; with_reducible exact H2_) | with_reducible exact H | (rw [hy474]; exact H) | exact H
    have Ny474 := am_ hy474
    clear hy474
    simp only [Option.some.injEq, Prod.mk.injEq] at H
    obtain ⟨rfl, rfl, rfl, rfl⟩ := H
    go_enter Try.func82, Try.ntmps82
    try go_wp2_with (first | ((with_reducible refine gate_dst (N := 0) rfl ?_); refine boxq_ (N := 0) (cs := #[.int .i64 0, .slice none 0 0, .slice none 0 0, .slice none 0 0]) (t := 81) ?_; intro gb467 hg w4 hbox hb; have BK467 := am_ (hbox); have GW467 := gz_ hg; have GE467 := gz_ hg; replace HB := bs_ hb; clear hb hbox hg))
    replace BK467 := am_ (blk_drew BK467.out)
    replace HB := am_ (below_drew1 HB.out)
    refine start_ (n := 5) (S := fun w' => True) (ds := []) #[false, false, false, false, false] (by kernel_rfl) rfl rfl trivial (fun hHeld => ?_)
    generalize w4.drew = w5 at BK467 HB hHeld ⊢
    refine join_ (σ := Value × Value × Value) 2 #[true, true, true, false, false] (fun s_ => [(1, s_.1), (2, s_.2.1), (3, s_.2.2)]) (fun s_ w' => (Kd.R (Kd.int .i64) 3 w' w.heap.size (fun k_ => some k_ ≠ (s_.2.1 : Value).ownBlock) s_.1 y468) ∧ (Kd.R (Kd.int .i64) 3 w' w.heap.size (fun k_ => some k_ ≠ (s_.1 : Value).ownBlock) s_.2.1 y471) ∧ (Kd.R Kd.bool 4 w' w.heap.size (fun _ => True) s_.2.2 y474) ∧ (w'.heap[gb467]? = some (.cells #[.int .i64 0, .slice none 0 0, .slice none 0 0, .slice none 0 0] 81 (0, 0))) ∧ (Below w.heap.size w w')) ?_ ?_
    rotate_left
    ·intro hJ0_1_2
     refine join_ (σ := Value × Value) 3 #[true, true, false, false, false] (fun s_ => [(1, s_.1), (2, s_.2)]) (fun s_ w' => (Kd.R (Kd.int .i64) 3 w' w.heap.size (fun k_ => some k_ ≠ (s_.2 : Value).ownBlock) s_.1 y468) ∧ (Kd.R (Kd.int .i64) 3 w' w.heap.size (fun k_ => some k_ ≠ (s_.1 : Value).ownBlock) s_.2 y471) ∧ (w'.heap[gb467]? = some (.cells #[.int .i64 0, .slice none 0 0, .slice none 0 0, .slice none 0 0] 81 (0, 0))) ∧ (Below w.heap.size w w')) ?_ ?_
     rotate_left
     ·intro hJ0_1
      refine join_ (σ := Value × Value) 3 #[true, false, true, false, false] (fun s_ => [(1, s_.1), (3, s_.2)]) (fun s_ w' => (Kd.R (Kd.int .i64) 3 w' w.heap.size (fun _ => True) s_.1 y468) ∧ (Kd.R Kd.bool 4 w' w.heap.size (fun _ => True) s_.2 y474) ∧ (w'.heap[gb467]? = some (.cells #[.int .i64 0, .slice none 0 0, .slice none 0 0, .slice none 0 0] 81 (0, 0))) ∧ (Below w.heap.size w w')) ?_ ?_
      rotate_left
      ·intro hJ0_2
       refine join_ (σ := Value × Value) 3 #[false, true, true, false, false] (fun s_ => [(2, s_.1), (3, s_.2)]) (fun s_ w' => (Kd.R (Kd.int .i64) 3 w' w.heap.size (fun _ => True) s_.1 y471) ∧ (Kd.R Kd.bool 4 w' w.heap.size (fun _ => True) s_.2 y474) ∧ (w'.heap[gb467]? = some (.cells #[.int .i64 0, .slice none 0 0, .slice none 0 0, .slice none 0 0] 81 (0, 0))) ∧ (Below w.heap.size w w')) ?_ ?_
       rotate_left
       ·intro hJ1_2
        refine join_ (σ := Value) 4 #[true, false, false, false, false] (fun s_ => [(1, s_)]) (fun s_ w' => (Kd.R (Kd.int .i64) 3 w' w.heap.size (fun _ => True) s_ y468) ∧ (w'.heap[gb467]? = some (.cells #[.int .i64 0, .slice none 0 0, .slice none 0 0, .slice none 0 0] 81 (0, 0))) ∧ (Below w.heap.size w w')) ?_ ?_
        rotate_left
        ·intro hJ0
         refine join_ (σ := Value) 4 #[false, true, false, false, false] (fun s_ => [(2, s_)]) (fun s_ w' => (Kd.R (Kd.int .i64) 3 w' w.heap.size (fun _ => True) s_ y471) ∧ (w'.heap[gb467]? = some (.cells #[.int .i64 0, .slice none 0 0, .slice none 0 0, .slice none 0 0] 81 (0, 0))) ∧ (Below w.heap.size w w')) ?_ ?_
         rotate_left
         ·intro hJ1
          refine join_ (σ := Value) 4 #[false, false, true, false, false] (fun s_ => [(3, s_)]) (fun s_ w' => (Kd.R Kd.bool 4 w' w.heap.size (fun _ => True) s_ y474) ∧ (w'.heap[gb467]? = some (.cells #[.int .i64 0, .slice none 0 0, .slice none 0 0, .slice none 0 0] 81 (0, 0))) ∧ (Below w.heap.size w w')) ?_ ?_
          rotate_left
          ·intro hJ2
           refine three_ (i := 0) (j := 1) (k := 2) (Ni := some 1) (Nj := some 2) (Nk := some 3) #[true, false, false, false, false] #[false, true, false, false, false] #[false, false, true, false, false] rfl rfl rfl rfl rfl rfl (by kernel_rfl) (by decide) (by decide) (by decide) (fun K hK => ?_) (fun K hK => ?_) (fun K hK => ?_)
           ·skip
            refine Kd.R_make_step (Kd.int .i64) _ 3 (by rfl) (N := 1) rfl 30 _ _ rfl 6 rfl rfl Try.underlying30 (.int .i64 0) 8 info3 rfl (by decide) (by omega) 0 (ok := fun _ => True) (okp := fun _ => True) rfl (fun _ hk => hk) trivial (by omega) (by omega) (Below.refl _ _) (Nat.le_refl _) ?_
            intro v469 w6 ho7 hb hg_ hnew_
            clear hg_ hnew_
            (first | rw [← Ny468.out] at ho7 | (simp only [Int.reduceToNat] at ho7; rw [← Ny468.out] at ho7))
            have HO470 := am_ (Kd.R_lower ho7 (below_size (bq_)))
            replace BK467 := bb_ BK467 hb
            replace HB := bs_ hb
            clear hb ho7
            refine hK.out _ _ trivial (fun hHeld => ?_)
            clear hK K
            refine norm_ (a' := ?_) ?_ ?_
            rotate_left
            ·show Act.put _ (some 1) _ = _
             simp only [Act.put, List.setIfInBounds_toArray, List.set_cons_zero, List.set_cons_succ, i64_w, i32_w]
             rfl
            exact norm_ y2_ (hJ0 (v469) _ ⟨(rq_ HO470.out), (bk_ BK467.out), (bq_)⟩)
           ·skip
            refine Kd.R_make_step (Kd.int .i64) _ 3 (by rfl) (N := 2) rfl 30 _ _ rfl 16 rfl rfl Try.underlying30 (.int .i64 0) 8 info3 rfl (by decide) (by omega) 0 (ok := fun _ => True) (okp := fun _ => True) rfl (fun _ hk => hk) trivial (by omega) (by omega) (Below.refl _ _) (Nat.le_refl _) ?_
            intro v472 w6 ho7 hb hg_ hnew_
            clear hg_ hnew_
            (first | rw [← Ny471.out] at ho7 | (simp only [Int.reduceToNat] at ho7; rw [← Ny471.out] at ho7))
            have HO473 := am_ (Kd.R_lower ho7 (below_size (bq_)))
            replace BK467 := bb_ BK467 hb
            replace HB := bs_ hb
            clear hb ho7
            refine hK.out _ _ trivial (fun hHeld => ?_)
            clear hK K
            refine norm_ (a' := ?_) ?_ ?_
            rotate_left
            ·show Act.put _ (some 2) _ = _
             simp only [Act.put, List.setIfInBounds_toArray, List.set_cons_zero, List.set_cons_succ, i64_w, i32_w]
             rfl
            exact norm_ y2_ (hJ1 (v472) _ ⟨(rq_ HO473.out), (bk_ BK467.out), (bq_)⟩)
           ·skip
            refine Kd.R_make_step Kd.bool _ 4 (by rfl) (N := 3) rfl 57 _ _ rfl 16 rfl rfl Try.underlying57 (.bool false) 1 info4 rfl (by decide) (by omega) false (ok := fun _ => True) (okp := fun _ => True) rfl (fun _ hk => hk) trivial (by omega) (by omega) (Below.refl _ _) (Nat.le_refl _) ?_
            intro v475 w6 ho7 hb hg_ hnew_
            clear hg_ hnew_
            (first | rw [← Ny474.out] at ho7 | (simp only [Int.reduceToNat] at ho7; rw [← Ny474.out] at ho7))
            have HO476 := am_ (Kd.R_lower ho7 (below_size (bq_)))
            replace BK467 := bb_ BK467 hb
            replace HB := bs_ hb
            clear hb ho7
            refine hK.out _ _ trivial (fun hHeld => ?_)
            clear hK K
            refine norm_ (a' := ?_) ?_ ?_
            rotate_left
            ·show Act.put _ (some 3) _ = _
             simp only [Act.put, List.setIfInBounds_toArray, List.set_cons_zero, List.set_cons_succ, i64_w, i32_w]
             rfl
            exact norm_ y2_ (hJ2 (v475) _ ⟨(rq_ HO476.out), (bk_ BK467.out), (bq_)⟩)
          ·skip
           rintro v475 w8 ⟨h0_, h1_, h2_⟩
           have n0_ : Aside0 (Kd.R Kd.bool 4 w8 w.heap.size (fun _ => True) v475 y474) := ⟨h0_⟩
           have n1_ : Aside0 (w8.heap[gb467]? = some (.cells #[.int .i64 0, .slice none 0 0, .slice none 0 0, .slice none 0 0] 81 (0, 0))) := ⟨h1_⟩
           have n2_ : Aside0 (Below w.heap.size w w8) := ⟨h2_⟩
           clear BK467 HB h0_ h1_ h2_
           have HO476 := n0_
           have BK467 := n1_
           have HB := n2_
           clear n0_ n1_ n2_
           have hHeld := trivial
           refine norm_ (a' := ?_) ?_ ?_
           rotate_left
           ·simp only [putAll, Act.put, List.setIfInBounds_toArray, List.set_cons_zero, List.set_cons_succ]
            rfl
           refine two_ (i := 0) (j := 1) (Ni := some 1) (Nj := some 2) #[true, false, true, false, false] #[false, true, true, false, false] rfl rfl rfl rfl (by kernel_rfl) (by decide) (by decide) (fun K hK => ?_) (fun K hK => ?_)
           ·skip
            refine Kd.R_make_step (Kd.int .i64) _ 3 (by rfl) (N := 1) rfl 30 _ _ rfl 6 rfl rfl Try.underlying30 (.int .i64 0) 8 info3 rfl (by decide) (by omega) 0 (ok := fun _ => True) (okp := fun _ => True) rfl (fun _ hk => hk) trivial (by omega) (by omega) (Below.refl _ _) (Nat.le_refl _) ?_
            intro v469 w9 ho10 hb hg_ hnew_
            clear hg_ hnew_
            (first | rw [← Ny468.out] at ho10 | (simp only [Int.reduceToNat] at ho10; rw [← Ny468.out] at ho10))
            replace HO476 := am_ (Kd.R_below (rq_ HO476.out) hb)
            have HO470 := am_ (Kd.R_lower ho10 (below_size (bq_)))
            replace BK467 := bb_ BK467 hb
            replace HB := bs_ hb
            clear hb ho10
            refine hK.out _ _ trivial (fun hHeld => ?_)
            clear hK K
            refine norm_ (a' := ?_) ?_ ?_
            rotate_left
            ·show Act.put _ (some 1) _ = _
             simp only [Act.put, List.setIfInBounds_toArray, List.set_cons_zero, List.set_cons_succ, i64_w, i32_w]
             rfl
            exact norm_ y2_ (hJ0_2 (v469, v475) _ ⟨(rq_ HO470.out), (rq_ HO476.out), (bk_ BK467.out), (bq_)⟩)
           ·skip
            refine Kd.R_make_step (Kd.int .i64) _ 3 (by rfl) (N := 2) rfl 30 _ _ rfl 16 rfl rfl Try.underlying30 (.int .i64 0) 8 info3 rfl (by decide) (by omega) 0 (ok := fun _ => True) (okp := fun _ => True) rfl (fun _ hk => hk) trivial (by omega) (by omega) (Below.refl _ _) (Nat.le_refl _) ?_
            intro v472 w9 ho10 hb hg_ hnew_
            clear hg_ hnew_
            (first | rw [← Ny471.out] at ho10 | (simp only [Int.reduceToNat] at ho10; rw [← Ny471.out] at ho10))
            replace HO476 := am_ (Kd.R_below (rq_ HO476.out) hb)
            have HO473 := am_ (Kd.R_lower ho10 (below_size (bq_)))
            replace BK467 := bb_ BK467 hb
            replace HB := bs_ hb
            clear hb ho10
            refine hK.out _ _ trivial (fun hHeld => ?_)
            clear hK K
            refine norm_ (a' := ?_) ?_ ?_
            rotate_left
            ·show Act.put _ (some 2) _ = _
             simp only [Act.put, List.setIfInBounds_toArray, List.set_cons_zero, List.set_cons_succ, i64_w, i32_w]
             rfl
            exact norm_ y2_ (hJ1_2 (v472, v475) _ ⟨(rq_ HO473.out), (rq_ HO476.out), (bk_ BK467.out), (bq_)⟩)
         ·skip
          rintro v472 w8 ⟨h0_, h1_, h2_⟩
          have n0_ : Aside0 (Kd.R (Kd.int .i64) 3 w8 w.heap.size (fun _ => True) v472 y471) := ⟨h0_⟩
          have n1_ : Aside0 (w8.heap[gb467]? = some (.cells #[.int .i64 0, .slice none 0 0, .slice none 0 0, .slice none 0 0] 81 (0, 0))) := ⟨h1_⟩
          have n2_ : Aside0 (Below w.heap.size w w8) := ⟨h2_⟩
          clear BK467 HB h0_ h1_ h2_
          have HO473 := n0_
          have BK467 := n1_
          have HB := n2_
          clear n0_ n1_ n2_
          have hHeld := trivial
          refine norm_ (a' := ?_) ?_ ?_
          rotate_left
          ·simp only [putAll, Act.put, List.setIfInBounds_toArray, List.set_cons_zero, List.set_cons_succ]
           rfl
          refine two_ (i := 0) (j := 2) (Ni := some 1) (Nj := some 3) #[true, true, false, false, false] #[false, true, true, false, false] rfl rfl rfl rfl (by kernel_rfl) (by decide) (by decide) (fun K hK => ?_) (fun K hK => ?_)
          ·skip
           refine Kd.R_make_step (Kd.int .i64) _ 3 (by rfl) (N := 1) rfl 30 _ _ rfl 6 rfl rfl Try.underlying30 (.int .i64 0) 8 info3 rfl (by decide) (by omega) 0 (ok := fun _ => True) (okp := fun _ => True) rfl (fun _ hk => hk) trivial (by omega) (by omega) (Below.refl _ _) (Nat.le_refl _) ?_
           intro v469 w9 ho10 hb hg_ hnew_
           clear hg_ hnew_
           (first | rw [← Ny468.out] at ho10 | (simp only [Int.reduceToNat] at ho10; rw [← Ny468.out] at ho10))
           have n0_ := am_ (Kd.R_elder' (rq_ HO473.out) (Kd.R_base ho10) hb)
           have n1_ := am_ (Kd.R_lower (Kd.R_new' ho10 (Kd.R_lt (rq_ HO473.out))) (below_size (bq_)))
           have n2_ := bb_ BK467 hb
           have n3_ := bs_ hb
           clear HO473 BK467 HB
           have HO473 := n0_
           have HO470 := n1_
           have BK467 := n2_
           have HB := n3_
           clear n0_ n1_ n2_ n3_ hb ho10
           refine hK.out _ _ trivial (fun hHeld => ?_)
           clear hK K
           refine norm_ (a' := ?_) ?_ ?_
           rotate_left
           ·show Act.put _ (some 1) _ = _
            simp only [Act.put, List.setIfInBounds_toArray, List.set_cons_zero, List.set_cons_succ, i64_w, i32_w]
            rfl
           exact norm_ y2_ (hJ0_1 (v469, v472) _ ⟨(rq_ (Kd.R_mono HO470.out (fun _ hk => hk.2))), (rq_ (Kd.R_mono HO473.out (fun _ hk => hk.2))), (bk_ BK467.out), (bq_)⟩)
          ·skip
           refine Kd.R_make_step Kd.bool _ 4 (by rfl) (N := 3) rfl 57 _ _ rfl 16 rfl rfl Try.underlying57 (.bool false) 1 info4 rfl (by decide) (by omega) false (ok := fun _ => True) (okp := fun _ => True) rfl (fun _ hk => hk) trivial (by omega) (by omega) (Below.refl _ _) (Nat.le_refl _) ?_
           intro v475 w9 ho10 hb hg_ hnew_
           clear hg_ hnew_
           (first | rw [← Ny474.out] at ho10 | (simp only [Int.reduceToNat] at ho10; rw [← Ny474.out] at ho10))
           replace HO473 := am_ (Kd.R_below (rq_ HO473.out) hb)
           have HO476 := am_ (Kd.R_lower ho10 (below_size (bq_)))
           replace BK467 := bb_ BK467 hb
           replace HB := bs_ hb
           clear hb ho10
           refine hK.out _ _ trivial (fun hHeld => ?_)
           clear hK K
           refine norm_ (a' := ?_) ?_ ?_
           rotate_left
           ·show Act.put _ (some 3) _ = _
            simp only [Act.put, List.setIfInBounds_toArray, List.set_cons_zero, List.set_cons_succ, i64_w, i32_w]
            rfl
           exact norm_ y2_ (hJ1_2 (v472, v475) _ ⟨(rq_ HO473.out), (rq_ HO476.out), (bk_ BK467.out), (bq_)⟩)
        ·skip
         rintro v469 w8 ⟨h0_, h1_, h2_⟩
         have n0_ : Aside0 (Kd.R (Kd.int .i64) 3 w8 w.heap.size (fun _ => True) v469 y468) := ⟨h0_⟩
         have n1_ : Aside0 (w8.heap[gb467]? = some (.cells #[.int .i64 0, .slice none 0 0, .slice none 0 0, .slice none 0 0] 81 (0, 0))) := ⟨h1_⟩
         have n2_ : Aside0 (Below w.heap.size w w8) := ⟨h2_⟩
         clear BK467 HB h0_ h1_ h2_
         have HO470 := n0_
         have BK467 := n1_
         have HB := n2_
         clear n0_ n1_ n2_
         have hHeld := trivial
         refine norm_ (a' := ?_) ?_ ?_
         rotate_left
         ·simp only [putAll, Act.put, List.setIfInBounds_toArray, List.set_cons_zero, List.set_cons_succ]
          rfl
         refine two_ (i := 1) (j := 2) (Ni := some 2) (Nj := some 3) #[true, true, false, false, false] #[true, false, true, false, false] rfl rfl rfl rfl (by kernel_rfl) (by decide) (by decide) (fun K hK => ?_) (fun K hK => ?_)
         ·skip
          refine Kd.R_make_step (Kd.int .i64) _ 3 (by rfl) (N := 2) rfl 30 _ _ rfl 16 rfl rfl Try.underlying30 (.int .i64 0) 8 info3 rfl (by decide) (by omega) 0 (ok := fun _ => True) (okp := fun _ => True) rfl (fun _ hk => hk) trivial (by omega) (by omega) (Below.refl _ _) (Nat.le_refl _) ?_
          intro v472 w9 ho10 hb hg_ hnew_
          clear hg_ hnew_
          (first | rw [← Ny471.out] at ho10 | (simp only [Int.reduceToNat] at ho10; rw [← Ny471.out] at ho10))
          have n0_ := am_ (Kd.R_elder' (rq_ HO470.out) (Kd.R_base ho10) hb)
          have n1_ := am_ (Kd.R_lower (Kd.R_new' ho10 (Kd.R_lt (rq_ HO470.out))) (below_size (bq_)))
          have n2_ := bb_ BK467 hb
          have n3_ := bs_ hb
          clear HO470 BK467 HB
          have HO470 := n0_
          have HO473 := n1_
          have BK467 := n2_
          have HB := n3_
          clear n0_ n1_ n2_ n3_ hb ho10
          refine hK.out _ _ trivial (fun hHeld => ?_)
          clear hK K
          refine norm_ (a' := ?_) ?_ ?_
          rotate_left
          ·show Act.put _ (some 2) _ = _
           simp only [Act.put, List.setIfInBounds_toArray, List.set_cons_zero, List.set_cons_succ, i64_w, i32_w]
           rfl
          exact norm_ y2_ (hJ0_1 (v469, v472) _ ⟨(rq_ (Kd.R_mono HO470.out (fun _ hk => hk.2))), (rq_ (Kd.R_mono HO473.out (fun _ hk => hk.2))), (bk_ BK467.out), (bq_)⟩)
         ·skip
          refine Kd.R_make_step Kd.bool _ 4 (by rfl) (N := 3) rfl 57 _ _ rfl 16 rfl rfl Try.underlying57 (.bool false) 1 info4 rfl (by decide) (by omega) false (ok := fun _ => True) (okp := fun _ => True) rfl (fun _ hk => hk) trivial (by omega) (by omega) (Below.refl _ _) (Nat.le_refl _) ?_
          intro v475 w9 ho10 hb hg_ hnew_
          clear hg_ hnew_
          (first | rw [← Ny474.out] at ho10 | (simp only [Int.reduceToNat] at ho10; rw [← Ny474.out] at ho10))
          replace HO470 := am_ (Kd.R_below (rq_ HO470.out) hb)
          have HO476 := am_ (Kd.R_lower ho10 (below_size (bq_)))
          replace BK467 := bb_ BK467 hb
          replace HB := bs_ hb
          clear hb ho10
          refine hK.out _ _ trivial (fun hHeld => ?_)
          clear hK K
          refine norm_ (a' := ?_) ?_ ?_
          rotate_left
          ·show Act.put _ (some 3) _ = _
           simp only [Act.put, List.setIfInBounds_toArray, List.set_cons_zero, List.set_cons_succ, i64_w, i32_w]
           rfl
          exact norm_ y2_ (hJ0_2 (v469, v475) _ ⟨(rq_ HO470.out), (rq_ HO476.out), (bk_ BK467.out), (bq_)⟩)
       ·skip
        rintro ⟨v472, v475⟩ w10 ⟨h0_, h1_, h2_, h3_⟩
        have n0_ : Aside0 (Kd.R (Kd.int .i64) 3 w10 w.heap.size (fun _ => True) v472 y471) := ⟨h0_⟩
        have n1_ : Aside0 (Kd.R Kd.bool 4 w10 w.heap.size (fun _ => True) v475 y474) := ⟨h1_⟩
        have n2_ : Aside0 (w10.heap[gb467]? = some (.cells #[.int .i64 0, .slice none 0 0, .slice none 0 0, .slice none 0 0] 81 (0, 0))) := ⟨h2_⟩
        have n3_ : Aside0 (Below w.heap.size w w10) := ⟨h3_⟩
        clear BK467 HB h0_ h1_ h2_ h3_
        have HO473 := n0_
        have HO476 := n1_
        have BK467 := n2_
        have HB := n3_
        clear n0_ n1_ n2_ n3_
        have hHeld := trivial
        refine norm_ (a' := ?_) ?_ ?_
        rotate_left
        ·simp only [putAll, Act.put, List.setIfInBounds_toArray, List.set_cons_zero, List.set_cons_succ]
         rfl
        refine one_ (i := 0) (N := some 1) #[true, true, true, false, false] rfl rfl (by kernel_rfl) (by decide) (fun K hK => ?_)
        refine Kd.R_make_step (Kd.int .i64) _ 3 (by rfl) (N := 1) rfl 30 _ _ rfl 6 rfl rfl Try.underlying30 (.int .i64 0) 8 info3 rfl (by decide) (by omega) 0 (ok := fun _ => True) (okp := fun _ => True) rfl (fun _ hk => hk) trivial (by omega) (by omega) (Below.refl _ _) (Nat.le_refl _) ?_
        intro v469 w11 ho12 hb hg_ hnew_
        clear hg_ hnew_
        (first | rw [← Ny468.out] at ho12 | (simp only [Int.reduceToNat] at ho12; rw [← Ny468.out] at ho12))
        have n0_ := am_ (Kd.R_elder' (rq_ HO473.out) (Kd.R_base ho12) hb)
        have n1_ := am_ (Kd.R_below (rq_ HO476.out) hb)
        have n2_ := am_ (Kd.R_lower (Kd.R_new' ho12 (Kd.R_lt (rq_ HO473.out))) (below_size (bq_)))
        have n3_ := bb_ BK467 hb
        have n4_ := bs_ hb
        clear HO473 HO476 BK467 HB
        have HO473 := n0_
        have HO476 := n1_
        have HO470 := n2_
        have BK467 := n3_
        have HB := n4_
        clear n0_ n1_ n2_ n3_ n4_ hb ho12
        obtain ⟨Ao13, co13, eo13⟩ := Kd.R_slice HO476.out
        (first | subst eo13 | (injection eo13 with f1_ f2_ f3_; have f4_ := f1_.symm; have f5_ := f3_.symm; clear f1_ f2_ f3_; subst f4_; subst f5_))
        obtain ⟨Ao14, co14, eo14⟩ := Kd.R_slice HO473.out
        (first | subst eo14 | (injection eo14 with f1_ f2_ f3_; have f4_ := f1_.symm; have f5_ := f3_.symm; clear f1_ f2_ f3_; subst f4_; subst f5_))
        obtain ⟨Ao15, co15, eo15⟩ := Kd.R_slice HO470.out
        (first | subst eo15 | (injection eo15 with f1_ f2_ f3_; have f4_ := f1_.symm; have f5_ := f3_.symm; clear f1_ f2_ f3_; subst f4_; subst f5_))
        refine hK.out _ _ trivial (fun hHeld => ?_)
        clear hK K
        refine norm_ (a' := ?_) ?_ ?_
        rotate_left
        ·show Act.put _ (some 1) _ = _
         simp only [Act.put, List.setIfInBounds_toArray, List.set_cons_zero, List.set_cons_succ, i64_w, i32_w]
         rfl
        exact norm_ y2_ (hJ0_1_2 (.slice Ao15 y468.length co15, .slice Ao14 y471.length co14, .slice Ao13 y474.length co13) _ ⟨(rq_ (Kd.R_mono HO470.out (fun _ hk => hk.2))), (rq_ (Kd.R_mono HO473.out (fun _ hk => hk.2))), (rq_ HO476.out), (bk_ BK467.out), (bq_)⟩)
      ·skip
       rintro ⟨v469, v475⟩ w10 ⟨h0_, h1_, h2_, h3_⟩
       have n0_ : Aside0 (Kd.R (Kd.int .i64) 3 w10 w.heap.size (fun _ => True) v469 y468) := ⟨h0_⟩
       have n1_ : Aside0 (Kd.R Kd.bool 4 w10 w.heap.size (fun _ => True) v475 y474) := ⟨h1_⟩
       have n2_ : Aside0 (w10.heap[gb467]? = some (.cells #[.int .i64 0, .slice none 0 0, .slice none 0 0, .slice none 0 0] 81 (0, 0))) := ⟨h2_⟩
       have n3_ : Aside0 (Below w.heap.size w w10) := ⟨h3_⟩
       clear BK467 HB h0_ h1_ h2_ h3_
       have HO470 := n0_
       have HO476 := n1_
       have BK467 := n2_
       have HB := n3_
       clear n0_ n1_ n2_ n3_
       have hHeld := trivial
       refine norm_ (a' := ?_) ?_ ?_
       rotate_left
       ·simp only [putAll, Act.put, List.setIfInBounds_toArray, List.set_cons_zero, List.set_cons_succ]
        rfl
       refine one_ (i := 1) (N := some 2) #[true, true, true, false, false] rfl rfl (by kernel_rfl) (by decide) (fun K hK => ?_)
       refine Kd.R_make_step (Kd.int .i64) _ 3 (by rfl) (N := 2) rfl 30 _ _ rfl 16 rfl rfl Try.underlying30 (.int .i64 0) 8 info3 rfl (by decide) (by omega) 0 (ok := fun _ => True) (okp := fun _ => True) rfl (fun _ hk => hk) trivial (by omega) (by omega) (Below.refl _ _) (Nat.le_refl _) ?_
       intro v472 w11 ho12 hb hg_ hnew_
       clear hg_ hnew_
       (first | rw [← Ny471.out] at ho12 | (simp only [Int.reduceToNat] at ho12; rw [← Ny471.out] at ho12))
       have n0_ := am_ (Kd.R_elder' (rq_ HO470.out) (Kd.R_base ho12) hb)
       have n1_ := am_ (Kd.R_below (rq_ HO476.out) hb)
       have n2_ := am_ (Kd.R_lower (Kd.R_new' ho12 (Kd.R_lt (rq_ HO470.out))) (below_size (bq_)))
       have n3_ := bb_ BK467 hb
       have n4_ := bs_ hb
       clear HO470 HO476 BK467 HB
       have HO470 := n0_
       have HO476 := n1_
       have HO473 := n2_
       have BK467 := n3_
       have HB := n4_
       clear n0_ n1_ n2_ n3_ n4_ hb ho12
       obtain ⟨Ao13, co13, eo13⟩ := Kd.R_slice HO476.out
       (first | subst eo13 | (injection eo13 with f1_ f2_ f3_; have f4_ := f1_.symm; have f5_ := f3_.symm; clear f1_ f2_ f3_; subst f4_; subst f5_))
       obtain ⟨Ao14, co14, eo14⟩ := Kd.R_slice HO473.out
       (first | subst eo14 | (injection eo14 with f1_ f2_ f3_; have f4_ := f1_.symm; have f5_ := f3_.symm; clear f1_ f2_ f3_; subst f4_; subst f5_))
       obtain ⟨Ao15, co15, eo15⟩ := Kd.R_slice HO470.out
       (first | subst eo15 | (injection eo15 with f1_ f2_ f3_; have f4_ := f1_.symm; have f5_ := f3_.symm; clear f1_ f2_ f3_; subst f4_; subst f5_))
       refine hK.out _ _ trivial (fun hHeld => ?_)
       clear hK K
       refine norm_ (a' := ?_) ?_ ?_
       rotate_left
       ·show Act.put _ (some 2) _ = _
        simp only [Act.put, List.setIfInBounds_toArray, List.set_cons_zero, List.set_cons_succ, i64_w, i32_w]
        rfl
       exact norm_ y2_ (hJ0_1_2 (.slice Ao15 y468.length co15, .slice Ao14 y471.length co14, .slice Ao13 y474.length co13) _ ⟨(rq_ (Kd.R_mono HO470.out (fun _ hk => hk.2))), (rq_ (Kd.R_mono HO473.out (fun _ hk => hk.2))), (rq_ HO476.out), (bk_ BK467.out), (bq_)⟩)
     ·skip
      rintro ⟨v469, v472⟩ w10 ⟨h0_, h1_, h2_, h3_⟩
      have n0_ : Aside0 (Kd.R (Kd.int .i64) 3 w10 w.heap.size (fun k_ => some k_ ≠ (v472 : Value).ownBlock) v469 y468) := ⟨h0_⟩
      have n1_ : Aside0 (Kd.R (Kd.int .i64) 3 w10 w.heap.size (fun k_ => some k_ ≠ (v469 : Value).ownBlock) v472 y471) := ⟨h1_⟩
      have n2_ : Aside0 (w10.heap[gb467]? = some (.cells #[.int .i64 0, .slice none 0 0, .slice none 0 0, .slice none 0 0] 81 (0, 0))) := ⟨h2_⟩
      have n3_ : Aside0 (Below w.heap.size w w10) := ⟨h3_⟩
      clear BK467 HB h0_ h1_ h2_ h3_
      have HO470 := n0_
      have HO473 := n1_
      have BK467 := n2_
      have HB := n3_
      clear n0_ n1_ n2_ n3_
      have hHeld := trivial
      refine norm_ (a' := ?_) ?_ ?_
      rotate_left
      ·simp only [putAll, Act.put, List.setIfInBounds_toArray, List.set_cons_zero, List.set_cons_succ]
       rfl
      refine one_ (i := 2) (N := some 3) #[true, true, true, false, false] rfl rfl (by kernel_rfl) (by decide) (fun K hK => ?_)
      refine Kd.R_make_step Kd.bool _ 4 (by rfl) (N := 3) rfl 57 _ _ rfl 16 rfl rfl Try.underlying57 (.bool false) 1 info4 rfl (by decide) (by omega) false (ok := fun _ => True) (okp := fun _ => True) rfl (fun _ hk => hk) trivial (by omega) (by omega) (Below.refl _ _) (Nat.le_refl _) ?_
      intro v475 w11 ho12 hb hg_ hnew_
      clear hg_ hnew_
      (first | rw [← Ny474.out] at ho12 | (simp only [Int.reduceToNat] at ho12; rw [← Ny474.out] at ho12))
      replace HO470 := am_ (Kd.R_below (rq_ HO470.out) hb)
      replace HO473 := am_ (Kd.R_below (rq_ HO473.out) hb)
      have HO476 := am_ (Kd.R_lower ho12 (below_size (bq_)))
      replace BK467 := bb_ BK467 hb
      replace HB := bs_ hb
      clear hb ho12
      obtain ⟨Ao13, co13, eo13⟩ := Kd.R_slice HO476.out
      (first | subst eo13 | (injection eo13 with f1_ f2_ f3_; have f4_ := f1_.symm; have f5_ := f3_.symm; clear f1_ f2_ f3_; subst f4_; subst f5_))
      obtain ⟨Ao14, co14, eo14⟩ := Kd.R_slice HO473.out
      (first | subst eo14 | (injection eo14 with f1_ f2_ f3_; have f4_ := f1_.symm; have f5_ := f3_.symm; clear f1_ f2_ f3_; subst f4_; subst f5_))
      obtain ⟨Ao15, co15, eo15⟩ := Kd.R_slice HO470.out
      (first | subst eo15 | (injection eo15 with f1_ f2_ f3_; have f4_ := f1_.symm; have f5_ := f3_.symm; clear f1_ f2_ f3_; subst f4_; subst f5_))
      refine hK.out _ _ trivial (fun hHeld => ?_)
      clear hK K
      refine norm_ (a' := ?_) ?_ ?_
      rotate_left
      ·show Act.put _ (some 3) _ = _
       simp only [Act.put, List.setIfInBounds_toArray, List.set_cons_zero, List.set_cons_succ, i64_w, i32_w]
       rfl
      exact norm_ y2_ (hJ0_1_2 (.slice Ao15 y468.length co15, .slice Ao14 y471.length co14, .slice Ao13 y474.length co13) _ ⟨(rq_ HO470.out), (rq_ HO473.out), (rq_ HO476.out), (bk_ BK467.out), (bq_)⟩)
    rintro ⟨v469, v472, v475⟩ w15 ⟨h0_, h1_, h2_, h3_, h4_⟩
    have n0_ : Aside0 (Kd.R (Kd.int .i64) 3 w15 w.heap.size (fun k_ => some k_ ≠ (v472 : Value).ownBlock) v469 y468) := ⟨h0_⟩
    have n1_ : Aside0 (Kd.R (Kd.int .i64) 3 w15 w.heap.size (fun k_ => some k_ ≠ (v469 : Value).ownBlock) v472 y471) := ⟨h1_⟩
    have n2_ : Aside0 (Kd.R Kd.bool 4 w15 w.heap.size (fun _ => True) v475 y474) := ⟨h2_⟩
    have n3_ : Aside0 (w15.heap[gb467]? = some (.cells #[.int .i64 0, .slice none 0 0, .slice none 0 0, .slice none 0 0] 81 (0, 0))) := ⟨h3_⟩
    have n4_ : Aside0 (Below w.heap.size w w15) := ⟨h4_⟩
    clear BK467 HB h0_ h1_ h2_ h3_ h4_
    have HO470 := n0_
    have HO473 := n1_
    have HO476 := n2_
    have BK467 := n3_
    have HB := n4_
    clear n0_ n1_ n2_ n3_ n4_
    have hHeld := trivial
    obtain ⟨Ao16, co16, eo16⟩ := Kd.R_slice HO476.out
    (first | subst eo16 | (injection eo16 with f1_ f2_ f3_; have f4_ := f1_.symm; have f5_ := f3_.symm; clear f1_ f2_ f3_; subst f4_; subst f5_))
    obtain ⟨Ao17, co17, eo17⟩ := Kd.R_slice HO473.out
    (first | subst eo17 | (injection eo17 with f1_ f2_ f3_; have f4_ := f1_.symm; have f5_ := f3_.symm; clear f1_ f2_ f3_; subst f4_; subst f5_))
    obtain ⟨Ao18, co18, eo18⟩ := Kd.R_slice HO470.out
    (first | subst eo18 | (injection eo18 with f1_ f2_ f3_; have f4_ := f1_.symm; have f5_ := f3_.symm; clear f1_ f2_ f3_; subst f4_; subst f5_))
    refine norm_ (a' := ?_) ?_ ?_
    rotate_left
    ·simp only [putAll, Act.put, List.setIfInBounds_toArray, List.set_cons_zero, List.set_cons_succ]
     rfl
    refine pure_ (i := 3) (N := some 4) (v := ?_) (a' := ?_) #[true, true, true, true, false] rfl rfl (by kernel_rfl) (fun _ _ _ h => h) (Or.inl ⟨by rfl, ?_⟩) ?_ ?_
    rotate_left
    ·intro w'
     go_simp
     with_reducible rfl
    rotate_left
    ·simp only [Act.put, List.setIfInBounds_toArray, List.set_cons_zero, List.set_cons_succ, i64_w, i32_w]
     rfl
    refine one_ (i := 4) (N := none) #[true, true, true, true, true] rfl rfl (by kernel_rfl) (by decide) (fun K hK => ?_)
    have hs19 : w15.cell? ⟨gb467, 0, none⟩ = some (.int .i64 0) := (blk_cell BK467.out 0).trans rfl
    have hfs19 := blk_frozen BK467.out 0
    have hs20 : w15.cell? ⟨gb467, 1, none⟩ = some (.slice none 0 0) := (blk_cell BK467.out 1).trans rfl
    have hfs20 := blk_frozen BK467.out 1
    have hs21 : w15.cell? ⟨gb467, 2, none⟩ = some (.slice none 0 0) := (blk_cell BK467.out 2).trans rfl
    have hfs21 := blk_frozen BK467.out 2
    have hs22 : w15.cell? ⟨gb467, 3, none⟩ = some (.slice none 0 0) := (blk_cell BK467.out 3).trans rfl
    have hfs22 := blk_frozen BK467.out 3
    refine skip_ (w1 := ?_) (by rfl) rfl ?_ ?_
    rotate_left
    ·go_simp
     rfl
    refine hK.out _ _ trivial (fun hHeld => ?_)
    clear hK K
    refine done_ (by kernel_rfl) ?_
    try go_wp2
    refine bodyPost_ret (results_cell_row rfl _ _ gb467 81 #[.int .i64 0, .slice Ao18 y468.length co18, .slice Ao17 y471.length co17, .slice Ao16 y474.length co16] (0, 0) _ rfl (bu_ BK467.out) Try.underlying81 rfl (by kernel_rfl)) rfl ?_
    exact ⟨_, _, _, by first | rfl | (simp [errW_none, errW_some] <;> rfl) | (simp [*, errW_none, errW_some] <;> rfl), rq_ (Kd.R_mono (Kd.R_far (p := ⟨gb467, 3, none⟩) (Kd.R_far (p := ⟨gb467, 2, none⟩) (Kd.R_far (p := ⟨gb467, 1, none⟩) (Kd.R_far (p := ⟨gb467, 0, none⟩) (Kd.R_types HO470.out BK467.out (by decide)) (fun _ hk => hk.2) (.int .i64 0)) (fun _ hk => hk.2) (.slice Ao18 y468.length co18)) (fun _ hk => hk.2) (.slice Ao17 y471.length co17)) (fun _ hk => hk.2) (.slice Ao16 y474.length co16)) (fun _ hk => hk.1)), rq_ (Kd.R_mono (Kd.R_far (p := ⟨gb467, 3, none⟩) (Kd.R_far (p := ⟨gb467, 2, none⟩) (Kd.R_far (p := ⟨gb467, 1, none⟩) (Kd.R_far (p := ⟨gb467, 0, none⟩) (Kd.R_types HO473.out BK467.out (by decide)) (fun _ hk => hk.2) (.int .i64 0)) (fun _ hk => hk.2) (.slice Ao18 y468.length co18)) (fun _ hk => hk.2) (.slice Ao17 y471.length co17)) (fun _ hk => hk.2) (.slice Ao16 y474.length co16)) (fun _ hk => hk.1)), rq_ (Kd.R_mono (Kd.R_far (p := ⟨gb467, 3, none⟩) (Kd.R_far (p := ⟨gb467, 2, none⟩) (Kd.R_far (p := ⟨gb467, 1, none⟩) (Kd.R_far (p := ⟨gb467, 0, none⟩) (Kd.R_types HO476.out BK467.out (by decide)) (fun _ hk => hk.2) (.int .i64 0)) (fun _ hk => hk.2) (.slice Ao18 y468.length co18)) (fun _ hk => hk.2) (.slice Ao17 y471.length co17)) (fun _ hk => hk.2) (.slice Ao16 y474.length co16)) (fun _ hk => trivial)), bq_⟩
   ·rw [if_neg c3] at H
    exact absurd H (by simp)
  ·rw [if_neg c2] at H
   exact absurd H (by simp)
 ·rw [if_neg c1] at H
  exact absurd H (by simp)
def impl_WordOf.f (a0 : Int) : Option (Int) := some (Go.bits .and .i64 a0 65535)
set_option maxHeartbeats 8000000 in
set_option maxRecDepth 100000 in
theorem impl_WordOf.still (a0 : Int) (r : Int) (w : World) (h : impl_WordOf.f a0 = some r) :
  Calls Try.prog 93 #[.int .i64 a0] w fun e w' => e = .returned (.int .i64 r) ∧ w' = w := by
 have H : (some (Go.bits .and .i64 a0 65535)) = some r := h
 clear h
 obtain rfl := Option.some.inj H
 go_enter Try.func93, Try.ntmps93
 go_wp2
 go_ret
 exact ⟨by first | rfl | (simp; done) | (simp [*]; done), rfl⟩
def impl_do.f (a0 : Int) (a1 : Int) (a2 : Int) : Option (Int) := if a0 = 1 then ((impl_WordOf.f (wrap64 (a1 + a2))).bind fun t477 => (some t477)) else (if a0 = 2 then ((impl_WordOf.f (wrap64 (a1 - a2))).bind fun t478 => (some t478)) else (if a0 = 3 then ((impl_WordOf.f (wrap64 (a1 * a2))).bind fun t479 => (some t479)) else (if a0 = 4 then (if a2 = 0 then (some 0) else (some (wrap64 (Int.tdiv a1 a2)))) else (if a0 = 5 then (if a2 = 0 then (some a1) else (some (Int.tmod a1 a2))) else (if a0 = 6 then (some (Go.bits .and .i64 a1 a2)) else (if a0 = 7 then (some (Go.bits .or .i64 a1 a2)) else (if a0 = 8 then (some (Go.bits .xor .i64 a1 a2)) else (if a0 = 9 then (if 0 ≤ (Int.tmod a2 16) then ((impl_WordOf.f (shl .i64 a1 (Int.tmod a2 16))).bind fun t480 => (some t480)) else (none)) else (if 0 ≤ (Int.tmod a2 16) then (some (shr .i64 a1 (Int.tmod a2 16))) else (none))))))))))
set_option maxHeartbeats 8000000 in
set_option maxRecDepth 100000 in
theorem impl_do.still (a0 : Int) (a1 : Int) (a2 : Int) (r : Int) (w : World) (h : impl_do.f a0 a1 a2 = some r) :
  Calls Try.prog 92 #[.int .i64 a0, .int .i64 a1, .int .i64 a2] w fun e w' => e = .returned (.int .i64 r) ∧ w' = w := by
 have H : (if a0 = 1 then ((impl_WordOf.f (wrap64 (a1 + a2))).bind fun t477 => (some t477)) else (if a0 = 2 then ((impl_WordOf.f (wrap64 (a1 - a2))).bind fun t478 => (some t478)) else (if a0 = 3 then ((impl_WordOf.f (wrap64 (a1 * a2))).bind fun t479 => (some t479)) else (if a0 = 4 then (if a2 = 0 then (some 0) else (some (wrap64 (Int.tdiv a1 a2)))) else (if a0 = 5 then (if a2 = 0 then (some a1) else (some (Int.tmod a1 a2))) else (if a0 = 6 then (some (Go.bits .and .i64 a1 a2)) else (if a0 = 7 then (some (Go.bits .or .i64 a1 a2)) else (if a0 = 8 then (some (Go.bits .xor .i64 a1 a2)) else (if a0 = 9 then (if 0 ≤ (Int.tmod a2 16) then ((impl_WordOf.f (shl .i64 a1 (Int.tmod a2 16))).bind fun t480 => (some t480)) else (none)) else (if 0 ≤ (Int.tmod a2 16) then (some (shr .i64 a1 (Int.tmod a2 16))) else (none))))))))))) = some r := h
 clear h
 by_cases c4 : a0 = 1
 ·rw [if_pos c4] at H
  have c4b0 : (a0 == 1) = true := beq_iff_eq.mpr c4
  have c4b1 : (a0 != 1) = false := bne_eq_false_iff_eq.mpr c4
  clear c4
  replace H := Option.bind_eq_some_iff.mp H
  obtain ⟨t477, A50, H⟩ := H
  replace H : (some t477) = some r := H
  have A5 := am_ A50
  clear A50
  obtain rfl := Option.some.inj H
  go_enter Try.func92, Try.ntmps92
  go_wp2_with (first | ((with_reducible refine gl_ 93 rfl ?_); refine goesM_ (some 13) Try.func93 #[.int .i64 (wrap64 (a1 + a2))] ?_; (with_reducible refine (impl_WordOf.still (wrap64 (a1 + a2)) t477 _ A5.out).mono ?_); rintro e w' ⟨rfl, rfl⟩; refine ⟨_, rfl, ?_⟩))
  go_ret
  exact ⟨by first | rfl | (simp; done) | (simp [*]; done), rfl⟩
 ·rw [if_neg c4] at H
  have c4b0 : (a0 == 1) = false := beq_eq_false_iff_ne.mpr c4
  have c4b1 : (a0 != 1) = true := bne_iff_ne.mpr c4
  by_cases c6 : a0 = 2
  ·rw [if_pos c6] at H
   have c6b0 : (a0 == 2) = true := beq_iff_eq.mpr c6
   have c6b1 : (a0 != 2) = false := bne_eq_false_iff_eq.mpr c6
   clear c6
   replace H := Option.bind_eq_some_iff.mp H
   obtain ⟨t478, A70, H⟩ := H
   replace H : (some t478) = some r := H
   have A7 := am_ A70
   clear A70
   obtain rfl := Option.some.inj H
   go_enter Try.func92, Try.ntmps92
   go_wp2_with (first | ((with_reducible refine gl_ 93 rfl ?_); refine goesM_ (some 19) Try.func93 #[.int .i64 (wrap64 (a1 - a2))] ?_; (with_reducible refine (impl_WordOf.still (wrap64 (a1 - a2)) t478 _ A7.out).mono ?_); rintro e w' ⟨rfl, rfl⟩; refine ⟨_, rfl, ?_⟩))
   go_ret
   exact ⟨by first | rfl | (simp; done) | (simp [*]; done), rfl⟩
  ·rw [if_neg c6] at H
   have c6b0 : (a0 == 2) = false := beq_eq_false_iff_ne.mpr c6
   have c6b1 : (a0 != 2) = true := bne_iff_ne.mpr c6
   by_cases c8 : a0 = 3
   ·rw [if_pos c8] at H
    have c8b0 : (a0 == 3) = true := beq_iff_eq.mpr c8
    have c8b1 : (a0 != 3) = false := bne_eq_false_iff_eq.mpr c8
    clear c8
    replace H := Option.bind_eq_some_iff.mp H
    obtain ⟨t479, A90, H⟩ := H
    replace H : (some t479) = some r := H
    have A9 := am_ A90
    clear A90
    obtain rfl := Option.some.inj H
    go_enter Try.func92, Try.ntmps92
    go_wp2_with (first | ((with_reducible refine gl_ 93 rfl ?_); refine goesM_ (some 25) Try.func93 #[.int .i64 (wrap64 (a1 * a2))] ?_; (with_reducible refine (impl_WordOf.still (wrap64 (a1 * a2)) t479 _ A9.out).mono ?_); rintro e w' ⟨rfl, rfl⟩; refine ⟨_, rfl, ?_⟩))
    go_ret
    exact ⟨by first | rfl | (simp; done) | (simp [*]; done), rfl⟩
   ·rw [if_neg c8] at H
    have c8b0 : (a0 == 3) = false := beq_eq_false_iff_ne.mpr c8
    have c8b1 : (a0 != 3) = true := bne_iff_ne.mpr c8
    by_cases c10 : a0 = 4
    ·rw [if_pos c10] at H
     have c10b0 : (a0 == 4) = true := beq_iff_eq.mpr c10
     have c10b1 : (a0 != 4) = false := bne_eq_false_iff_eq.mpr c10
     clear c10
     by_cases c11 : a2 = 0
     ·rw [if_pos c11] at H
      have c11b0 : (a2 == 0) = true := beq_iff_eq.mpr c11
      have c11b1 : (a2 != 0) = false := bne_eq_false_iff_eq.mpr c11
      clear c11
      obtain rfl := Option.some.inj H
      go_enter Try.func92, Try.ntmps92
      go_wp2
      go_ret
      exact ⟨by first | rfl | (simp; done) | (simp [*]; done), rfl⟩
     ·rw [if_neg c11] at H
      have c11b0 : (a2 == 0) = false := beq_eq_false_iff_ne.mpr c11
      have c11b1 : (a2 != 0) = true := bne_iff_ne.mpr c11
      obtain rfl := Option.some.inj H
      go_enter Try.func92, Try.ntmps92
      go_wp2
      go_ret
      exact ⟨by first | rfl | (simp; done) | (simp [*]; done), rfl⟩
    ·rw [if_neg c10] at H
     have c10b0 : (a0 == 4) = false := beq_eq_false_iff_ne.mpr c10
     have c10b1 : (a0 != 4) = true := bne_iff_ne.mpr c10
     by_cases c12 : a0 = 5
     ·rw [if_pos c12] at H
      have c12b0 : (a0 == 5) = true := beq_iff_eq.mpr c12
      have c12b1 : (a0 != 5) = false := bne_eq_false_iff_eq.mpr c12
      clear c12
      by_cases c13 : a2 = 0
      ·rw [if_pos c13] at H
       have c13b0 : (a2 == 0) = true := beq_iff_eq.mpr c13
       have c13b1 : (a2 != 0) = false := bne_eq_false_iff_eq.mpr c13
       clear c13
       obtain rfl := Option.some.inj H
       go_enter Try.func92, Try.ntmps92
       go_wp2
       go_ret
       exact ⟨by first | rfl | (simp; done) | (simp [*]; done), rfl⟩
      ·rw [if_neg c13] at H
       have c13b0 : (a2 == 0) = false := beq_eq_false_iff_ne.mpr c13
       have c13b1 : (a2 != 0) = true := bne_iff_ne.mpr c13
       obtain rfl := Option.some.inj H
       go_enter Try.func92, Try.ntmps92
       go_wp2
       go_ret
       exact ⟨by first | rfl | (simp; done) | (simp [*]; done), rfl⟩
     ·rw [if_neg c12] at H
      have c12b0 : (a0 == 5) = false := beq_eq_false_iff_ne.mpr c12
      have c12b1 : (a0 != 5) = true := bne_iff_ne.mpr c12
      by_cases c14 : a0 = 6
      ·rw [if_pos c14] at H
       have c14b0 : (a0 == 6) = true := beq_iff_eq.mpr c14
       have c14b1 : (a0 != 6) = false := bne_eq_false_iff_eq.mpr c14
       clear c14
       obtain rfl := Option.some.inj H
       go_enter Try.func92, Try.ntmps92
       go_wp2
       go_ret
       exact ⟨by first | rfl | (simp; done) | (simp [*]; done), rfl⟩
      ·rw [if_neg c14] at H
       have c14b0 : (a0 == 6) = false := beq_eq_false_iff_ne.mpr c14
       have c14b1 : (a0 != 6) = true := bne_iff_ne.mpr c14
       by_cases c15 : a0 = 7
       ·rw [if_pos c15] at H
        have c15b0 : (a0 == 7) = true := beq_iff_eq.mpr c15
        have c15b1 : (a0 != 7) = false := bne_eq_false_iff_eq.mpr c15
        clear c15
        obtain rfl := Option.some.inj H
        go_enter Try.func92, Try.ntmps92
        go_wp2
        go_ret
        exact ⟨by first | rfl | (simp; done) | (simp [*]; done), rfl⟩
       ·rw [if_neg c15] at H
        have c15b0 : (a0 == 7) = false := beq_eq_false_iff_ne.mpr c15
        have c15b1 : (a0 != 7) = true := bne_iff_ne.mpr c15
        by_cases c16 : a0 = 8
        ·rw [if_pos c16] at H
         have c16b0 : (a0 == 8) = true := beq_iff_eq.mpr c16
         have c16b1 : (a0 != 8) = false := bne_eq_false_iff_eq.mpr c16
         clear c16
         obtain rfl := Option.some.inj H
         go_enter Try.func92, Try.ntmps92
         go_wp2
         go_ret
         exact ⟨by first | rfl | (simp; done) | (simp [*]; done), rfl⟩
        ·rw [if_neg c16] at H
         have c16b0 : (a0 == 8) = false := beq_eq_false_iff_ne.mpr c16
         have c16b1 : (a0 != 8) = true := bne_iff_ne.mpr c16
         by_cases c17 : a0 = 9
         ·rw [if_pos c17] at H
          have c17b0 : (a0 == 9) = true := beq_iff_eq.mpr c17
          have c17b1 : (a0 != 9) = false := bne_eq_false_iff_eq.mpr c17
          clear c17
          obtain ⟨ji18, hji18⟩ : ∃ j_ : Int, (Int.tmod a2 16) = j_ := ⟨_, rfl⟩
          replace H : (if 0 ≤ (ji18) then ((impl_WordOf.f (shl .i64 a1 (ji18))).bind fun t480 => (some t480)) else (none)) = some r := by first | (rw [hji18] at H; exact H) | (simp only [hji18] at H ⊢; exact H)
          by_cases c19 : 0 ≤ (ji18)
          ·rw [if_pos c19] at H
           have c19b0 := eq_true c19
           have c19b1 : decide (0 ≤ (ji18)) = true := decide_eq_true c19
           clear c19
           obtain ⟨ji20, hji20⟩ : ∃ j_ : Int, (shl .i64 a1 (ji18)) = j_ := ⟨_, rfl⟩
           replace H : ((impl_WordOf.f (ji20)).bind fun t480 => (some t480)) = some r := by first | (rw [hji20] at H; exact H) | (simp only [hji20] at H ⊢; exact H)
           have hji20_ : (IntKind.i64.wrap (a1 * 2 ^ min (ji18).toNat 64)) = ji20 := hji20
           have hji20z : (ji18) ≤ 64 → (IntKind.i64.wrap (a1 * 2 ^ (ji18).toNat)) = ji20 := shl_small hji20
           have hji20y : (wrap64 (a1 * 2 ^ min (ji18).toNat 64)) = ji20 := (i64_w _).symm.trans hji20_
           have hji20x : (ji18) ≤ 64 → (wrap64 (a1 * 2 ^ (ji18).toNat)) = ji20 := fun h_ => (i64_w _).symm.trans (hji20z h_)
           replace H := Option.bind_eq_some_iff.mp H
           obtain ⟨t480, A210, H⟩ := H
           replace H : (some t480) = some r := H
           have A21 := am_ A210
           clear A210
           obtain rfl := Option.some.inj H
           go_enter Try.func92, Try.ntmps92
           go_wp2_with (first | ((with_reducible refine gl_ 93 rfl ?_); refine goesL_ (some 62) rfl rfl Try.func93 (by kernel_rfl) rfl #[.int .i64 ji20] rfl (by (try simp only [List.map_toArray, List.map_cons, List.map_nil]); first | done | (simp only [hji20]; rfl) | rfl | (simp only [List.length_drop, List.length_take]; rfl)) ?_; (with_reducible refine (impl_WordOf.still ji20 t480 _ A21.out).mono ?_); rintro e w' ⟨rfl, rfl⟩; refine ⟨_, rfl, ?_⟩))
           go_ret
           exact ⟨by first | rfl | (simp; done) | (simp only [← hji18, ← hji20] <;> (first | rfl | simp)) | (simp [*]; done), rfl⟩
          ·rw [if_neg c19] at H
           exact absurd H (by simp)
         ·rw [if_neg c17] at H
          have c17b0 : (a0 == 9) = false := beq_eq_false_iff_ne.mpr c17
          have c17b1 : (a0 != 9) = true := bne_iff_ne.mpr c17
          obtain ⟨ji22, hji22⟩ : ∃ j_ : Int, (Int.tmod a2 16) = j_ := ⟨_, rfl⟩
          replace H : (if 0 ≤ (ji22) then (some (shr .i64 a1 (ji22))) else (none)) = some r := by first | (rw [hji22] at H; exact H) | (simp only [hji22] at H ⊢; exact H)
          by_cases c23 : 0 ≤ (ji22)
          ·rw [if_pos c23] at H
           have c23b0 := eq_true c23
           have c23b1 : decide (0 ≤ (ji22)) = true := decide_eq_true c23
           clear c23
           obtain ⟨ji24, hji24⟩ : ∃ j_ : Int, (shr .i64 a1 (ji22)) = j_ := ⟨_, rfl⟩
           replace H : (some ji24) = some r := by first | (rw [hji24] at H; exact H) | (simp only [hji24] at H ⊢; exact H)
           have hji24_ : (a1 / 2 ^ min (ji22).toNat 64) = ji24 := hji24
           have hji24z : (ji22) ≤ 64 → (a1 / 2 ^ (ji22).toNat) = ji24 := shr_small hji24
           obtain rfl := Option.some.inj H
           go_enter Try.func92, Try.ntmps92
           go_wp2
           go_ret
           exact ⟨by first | rfl | (simp; done) | (simp only [← hji22, ← hji24] <;> (first | rfl | simp)) | (simp [*]; done), rfl⟩
          ·rw [if_neg c23] at H
           exact absurd H (by simp)
end Go.Proofs.Ytcmhkgpalfljbaa.PPA
