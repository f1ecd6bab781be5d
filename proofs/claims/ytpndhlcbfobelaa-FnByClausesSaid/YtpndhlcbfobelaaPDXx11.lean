import Derived.Test.YtpndhlcbfobelaaPDXx0
import Derived.Test.YtpndhlcbfobelaaPDXx2
import Derived.Test.YtpndhlcbfobelaaPDXx5
import Derived.Test.YtpndhlcbfobelaaPDXx7
import Derived.Test.YtpndhlcbfobelaaPDXx10
namespace Go.Proofs.Ytpndhlcbfobelaa.PDX
open Go.RowKit Go.Proofs.YtpndhlcbfobelaaW.PrintWords Go.Proofs.YtpndhlcbfobelaaW.PrintLast Go.Proofs.YtpndhlcbfobelaaW.PrintMore
attribute [local go_sem] max2_int min2_int max_two min_two max_three min_three max_four min_four   -- for this text's walks alone
set_option linter.unusedVariables false
set_option linter.unusedSimpArgs false
mutual
def spec_ByClauses.j0 : Nat → Int → List (List Int) → Bool → Option (Int × (List (S75)) × Int × Bool)
 | 0, _, _, _ => none
 | k + 1, x0, x1, x15 => if x15 = true then (some (0, ([] : List (S75)), 0, false)) else (spec_ByClauses.l0 k x0 x1 ([] : List Bool) 0)
def spec_ByClauses.l0 : Nat → Int → List (List Int) → List Bool → Int → Option (Int × (List (S75)) × Int × Bool)
 | 0, _, _, _, _ => none
 | k + 1, x0, x1, x6, x7 => if 0 ≤ (IntKind.u64.wrap (x0)) then (if x7 < (shl .i64 1 (IntKind.u64.wrap (x0))) then ((spec_l4Model.f k x0 x7).bind fun t246 => ((spec_l4Holds.f k x1 t246).bind fun t249 => (if x6.length < 140737488355328 then (spec_ByClauses.l0 k x0 x1 (x6 ++ [t249]) (wrap64 (x7 + 1))) else (none)))) else ((spec_l7Of.f k x0 x6).bind fun bt253 => (some (bt253.1, bt253.2.1, bt253.2.2, true)))) else (none)
end
def spec_ByClauses.f (k : Nat) (a0 : Int) (l1 : List (List Int)) : Option (Int × (List (S75)) × Int × Bool) := (spec_GoodClauses.f k a0 l1).bind fun t245 => (if t245 = true then (spec_ByClauses.j0 k a0 l1 (decide (a0 > 6))) else (spec_ByClauses.j0 k a0 l1 true))
set_option maxHeartbeats 8000000 in
set_option maxRecDepth 100000 in
theorem spec_ByClauses.calls (k : Nat) (a0 : Int) (A1 : Option Addr) (c1 : Nat) (l1 : List (List Int)) (r1 : Int) (r2 : List (S75)) (r3 : Int) (r4 : Bool) (w : World) (hr1 : Kd.C (Kd.slice 3 (Kd.int .i64)) w A1 l1.length l1) (hc1 : l1.length ≤ c1) (h : spec_ByClauses.f k a0 l1 = some (r1, r2, r3, r4)) :
  Calls Try.prog 34 #[.int .i64 a0, .slice A1 l1.length c1] w fun e w' => ∃ v1_ : Value, e = .returned (.tuple #[.agg #[.int .i64 r1, v1_, .int .i64 r3], .bool r4]) ∧ Kd.R k75 75 w' w.heap.size (fun _ => True) v1_ r2 ∧ Below w.heap.size w w' := by
 have hu30 := Try.underlying30
 have HR1 := am_ hr1
 have HC1 := am_ hc1
 clear hr1 hc1
 have HB := am_ (Below.refl w.heap.size w)
 have H : ((spec_GoodClauses.f k a0 l1).bind fun t245 => (if t245 = true then (spec_ByClauses.j0 k a0 l1 (decide (a0 > 6))) else (spec_ByClauses.j0 k a0 l1 true))) = some (r1, r2, r3, r4) := h
 clear h
 have HC3 := am_ H
 clear H
 go_enter Try.func34, Try.ntmps34
 go_upto_region 1 with (first | ((with_reducible refine gate_dst (N := 4) rfl ?_); refine boxq_ (N := 4) (cs := #[.int .i64 0, .slice none 0 0, .int .i64 0]) (t := 30) ?_; intro gb244 hg w4 hbox hb; have BK244 := am_ (hbox); have GW244 := gz_ hg; have GE244 := gz_ hg; replace HB := bs_ hb; clear hb hbox hg))
 (try simp only [Act.put, List.setIfInBounds_toArray, List.set_cons_zero, List.set_cons_succ])
 go_cut [15] (fun v15 wc => ∃ (kq : Nat) (x15_2 : Bool), v15 = .bool x15_2 ∧ Aside0 (spec_ByClauses.j0 kq a0 l1 x15_2 = some (r1, r2, r3, r4)) ∧ Aside0 (kq ≤ k) ∧ Aside0 (wc.heap[gb244]? = some (.cells #[.int .i64 0, (.slice none 0 0), .int .i64 0] 30 (0, 0))) ∧ Aside0 (Below w.heap.size w wc))
 case first =>
  have H := HC3.out
  clear HC3
  replace H := Option.bind_eq_some_iff.mp H
  obtain ⟨t245, A50, H⟩ := H
  replace H : (if t245 = true then (spec_ByClauses.j0 k a0 l1 (decide (a0 > 6))) else (spec_ByClauses.j0 k a0 l1 true)) = some (r1, r2, r3, r4) := H
  have A5 := am_ A50
  clear A50
  by_cases c6 : t245 = true
  ·subst c6
   have H1 : (spec_ByClauses.j0 k a0 l1 (decide (a0 > 6))) = some (r1, r2, r3, r4) := by rw [if_pos rfl] at H; exact H
   clear H
   have H := H1
   clear H1
   have H' := am_ H
   clear H
   go_wp2_with (first | ((with_reducible refine gl_ 71 rfl ?_); refine goesM_ (some 10) Try.func71 #[.int .i64 a0, .slice A1 l1.length c1] ?_; (with_reducible refine (spec_GoodClauses.calls k a0 _ _ l1 true _ ?side1 ?side2 A5.out).mono ?_); (case side1 => exact cm_ (Kd.C_below HR1.out HB.out)); (case side2 => exact HC1.out); rintro e w' ⟨rfl, ⟨nd, rfl⟩⟩; refine ⟨_, rfl, ?_⟩))
   go_meet
   case rel => exact ⟨_, (decide (a0 > 6)), y30_, H', ⟨by first | omega | exact Nat.le_refl _⟩, ⟨bk_ BK244.out⟩, ⟨bq_⟩⟩
  ·replace c6 := Bool.eq_false_iff.mpr c6
   subst c6
   have H1 : (spec_ByClauses.j0 k a0 l1 true) = some (r1, r2, r3, r4) := by rw [if_neg (show ¬ (false = true) by decide)] at H; exact H
   clear H
   have H := H1
   clear H1
   have H' := am_ H
   clear H
   go_wp2_with (first | ((with_reducible refine gl_ 71 rfl ?_); refine goesM_ (some 10) Try.func71 #[.int .i64 a0, .slice A1 l1.length c1] ?_; (with_reducible refine (spec_GoodClauses.calls k a0 _ _ l1 false _ ?side1 ?side2 A5.out).mono ?_); (case side1 => exact cm_ (Kd.C_below HR1.out HB.out)); (case side2 => exact HC1.out); rintro e w' ⟨rfl, ⟨nd, rfl⟩⟩; refine ⟨_, rfl, ?_⟩))
   go_meet
   case rel => exact ⟨_, (true), y30_, H', ⟨by first | omega | exact Nat.le_refl _⟩, ⟨bk_ BK244.out⟩, ⟨bq_⟩⟩
 case rest =>
  clear HC3
  try clear c1
  try clear p2
  try clear c3
  try clear c6
  obtain ⟨kq, x15_2, rfl, HA, HJ2, BK244, HB⟩ := hcut
  cases kq with
  | zero => exact absurd HA.out (by simp [spec_ByClauses.j0])
  | succ kj2 =>
   have H := HA.out
   clear HA
   simp only [spec_ByClauses.j0] at H
   by_cases c7 : x15_2 = true
   ·subst c7
    have H1 : (some (0, ([] : List (S75)), 0, false)) = some (r1, r2, r3, r4) := by rw [if_pos rfl] at H; exact H
    clear H
    have H := H1
    clear H1
    simp only [Option.some.injEq, Prod.mk.injEq] at H
    obtain ⟨rfl, rfl, rfl, rfl⟩ := H
    have hcz8_0 := cq_ BK244.out 0 (.int .i64 0)
    have hcz8_1 := cq_ BK244.out 1 (.slice none 0 0)
    have hcz8_2 := cq_ BK244.out 2 (.int .i64 0)
    have hfz8_0 := blk_frozen BK244.out 0
    have hfz8_1 := blk_frozen BK244.out 1
    have hfz8_2 := blk_frozen BK244.out 2
    go_wp2
    refine bodyPost_ret (results_ct rfl _ _ gb244 30 #[.int .i64 0, .slice none 0 0, .int .i64 0] (0, 0) _ rfl (bu_ BK244.out) Try.underlying30 rfl (by kernel_rfl)) rfl ?_
    exact ⟨_, by first | rfl | (simp [errW_none, errW_some] <;> rfl) | (simp [*, errW_none, errW_some] <;> rfl), by first | exact Kd.R_nil _ _ _ _ _ | exact Kd.N_nil _ _ _ _ _ | exact Kd.V_nil _ _ _ _ _ | exact Kd.Q_nil _ _ _ _ _ | exact Kd.S_nil _ _ _ _ _, bq_⟩
   ·replace c7 := Bool.eq_false_iff.mpr c7
    subst c7
    have H1 : (spec_ByClauses.l0 kj2 a0 l1 ([] : List Bool) 0) = some (r1, r2, r3, r4) := by rw [if_neg (show ¬ (false = true) by decide)] at H; exact H
    clear H
    have H := H1
    clear H1
    have H' := am_ H
    clear H
    go_wp2
    go_loopg [6, 7] kj2 (fun kq v6 v7 w' => ∃ (x6_2 : List Bool) (x7_2 : Int), v7 = .int .i64 x7_2 ∧ Aside0 (spec_ByClauses.l0 kq a0 l1 x6_2 x7_2 = some (r1, r2, r3, r4)) ∧ Aside0 (kq ≤ kj2) ∧ Aside0 (Kd.R Kd.bool 4 w' w.heap.size (fun _ => True) v6 x6_2) ∧ Aside0 (w'.heap[gb244]? = some (.cells #[.int .i64 0, (.slice none 0 0), .int .i64 0] 30 (0, 0))) ∧ Aside0 (Below w.heap.size w w'))
    case atStart => exact ⟨(([] : List Bool)), (0), y30_, H', ⟨Nat.le_refl _⟩, ⟨by first | exact Kd.R_nil _ _ _ _ _ | exact Kd.N_nil _ _ _ _ _ | exact Kd.V_nil _ _ _ _ _ | exact Kd.Q_nil _ _ _ _ _ | exact Kd.S_nil _ _ _ _ _⟩, ⟨bk_ BK244.out⟩, ⟨bq_⟩⟩
    case round =>
     clear H'
     try clear c1
     try clear p2
     try clear c3
     try clear c6
     try clear c7
     try clear hcz8_0
     try clear hcz8_1
     try clear hcz8_2
     try clear hfz8_0
     try clear hfz8_1
     try clear hfz8_2
     try clear p2
     obtain ⟨x6_2, x7_2, rfl, HA, HK2, HO_6, BK244, HB⟩ := hrel
     cases gk with
     | zero => exact absurd HA.out (by simp [spec_ByClauses.l0])
     | succ k2 =>
      have H := HA.out
      clear HA
      simp only [spec_ByClauses.l0] at H
      obtain ⟨ji9, hji9⟩ : ∃ j_ : Int, (IntKind.u64.wrap (a0)) = j_ := ⟨_, rfl⟩
      replace H : (if 0 ≤ (ji9) then (if x7_2 < (shl .i64 1 (ji9)) then ((spec_l4Model.f k2 a0 x7_2).bind fun t246 => ((spec_l4Holds.f k2 l1 t246).bind fun t249 => (if x6_2.length < 140737488355328 then (spec_ByClauses.l0 k2 a0 l1 (x6_2 ++ [t249]) (wrap64 (x7_2 + 1))) else (none)))) else ((spec_l7Of.f k2 a0 x6_2).bind fun bt253 => (some (bt253.1, bt253.2.1, bt253.2.2, true)))) else (none)) = some (r1, r2, r3, r4) := by first | (rw [hji9] at H; exact H) | (simp only [hji9] at H ⊢; exact H)
      by_cases c10 : 0 ≤ (ji9)
      ·rw [if_pos c10] at H
       have c10b0 := eq_true c10
       have c10b1 : decide (0 ≤ (ji9)) = true := decide_eq_true c10
       clear c10
       obtain ⟨ji11, hji11⟩ : ∃ j_ : Int, (shl .i64 1 (ji9)) = j_ := ⟨_, rfl⟩
       replace H : (if x7_2 < (ji11) then ((spec_l4Model.f k2 a0 x7_2).bind fun t246 => ((spec_l4Holds.f k2 l1 t246).bind fun t249 => (if x6_2.length < 140737488355328 then (spec_ByClauses.l0 k2 a0 l1 (x6_2 ++ [t249]) (wrap64 (x7_2 + 1))) else (none)))) else ((spec_l7Of.f k2 a0 x6_2).bind fun bt253 => (some (bt253.1, bt253.2.1, bt253.2.2, true)))) = some (r1, r2, r3, r4) := by first | (rw [hji11] at H; exact H) | (simp only [hji11] at H ⊢; exact H)
       have hji11_ : (IntKind.i64.wrap (1 * 2 ^ min (ji9).toNat 64)) = ji11 := hji11
       have hji11z : (ji9) ≤ 64 → (IntKind.i64.wrap (1 * 2 ^ (ji9).toNat)) = ji11 := shl_small hji11
       have hji11u : (IntKind.i64.wrap (2 ^ min (ji9).toNat 64)) = ji11 := by have h_ := hji11_; rw [Int.one_mul] at h_; exact h_
       have hji11v : (ji9) ≤ 64 → (IntKind.i64.wrap (2 ^ (ji9).toNat)) = ji11 := fun hle_ => by have h_ := hji11z hle_; rw [Int.one_mul] at h_; exact h_
       have hji11y : (wrap64 (1 * 2 ^ min (ji9).toNat 64)) = ji11 := (i64_w _).symm.trans hji11_
       have hji11x : (ji9) ≤ 64 → (wrap64 (1 * 2 ^ (ji9).toNat)) = ji11 := fun h_ => (i64_w _).symm.trans (hji11z h_)
       by_cases c12 : x7_2 < (ji11)
       ·rw [if_pos c12] at H
        have c12b0 : decide (x7_2 < (ji11)) = true := decide_eq_true c12
        clear c12
        replace H := Option.bind_eq_some_iff.mp H
        obtain ⟨t246, A130, H⟩ := H
        replace H : ((spec_l4Holds.f k2 l1 t246).bind fun t249 => (if x6_2.length < 140737488355328 then (spec_ByClauses.l0 k2 a0 l1 (x6_2 ++ [t249]) (wrap64 (x7_2 + 1))) else (none))) = some (r1, r2, r3, r4) := H
        have A13 := am_ A130
        clear A130
        replace H := Option.bind_eq_some_iff.mp H
        obtain ⟨t249, A140, H⟩ := H
        replace H : (if x6_2.length < 140737488355328 then (spec_ByClauses.l0 k2 a0 l1 (x6_2 ++ [t249]) (wrap64 (x7_2 + 1))) else (none)) = some (r1, r2, r3, r4) := H
        have A14 := am_ A140
        clear A140
        by_cases c15 : x6_2.length < 140737488355328
        ·rw [if_pos c15] at H
         have LMc15 := am_ c15
         clear c15
         obtain ⟨y250, hy250⟩ : ∃ y_ : List Bool, y_ = (x6_2 ++ [t249]) := ⟨_, rfl⟩
         replace H : (spec_ByClauses.l0 k2 a0 l1 y250 (wrap64 (x7_2 + 1))) = some (r1, r2, r3, r4) := by first | (rw [hy250]; with_reducible exact H) | (have H2_ := (Option.bind_some _ _).symm.trans H; rw [hy250]; with_reducible exact H2_) | (have H2_ := (Option.bind_some _ _).symm.trans H; with_reducible exact H2_) | with_reducible exact H | (rw [hy250]; exact H) | exact H
         have Ny250 := am_ hy250
         clear hy250
         have H' := am_ H
         clear H
         go_wp2_with (first | ((with_reducible refine gl_ 73 rfl ?_); refine goesM_ (some 28) Try.func73 #[.int .i64 a0, .int .i64 x7_2] ?_; (with_reducible refine (spec_l4Model.calls k2 a0 x7_2 t246 _ A13.out).mono ?_); rintro e w16 ⟨v247, rfl, ho0, hb⟩; refine ⟨_, rfl, ?_⟩; have HO248 := am_ (Kd.R_lower (Kd.R_new' ho0 (Kd.R_lt (rq_ HO_6.out))) (below_size (bq_))); replace HO_6 := am_ (Kd.R_elder' (rq_ HO_6.out) (Kd.R_base ho0) hb); replace BK244 := bb_ BK244 hb; replace HB := bs_ hb; (try clear hb); (try clear hk); (try clear ho0); obtain ⟨Ao17, co17, eo17⟩ := Kd.R_slice HO248.out; subst eo17) | ((with_reducible refine gl_ 72 rfl ?_); refine goesM_ (some 29) Try.func72 #[.slice A1 l1.length c1, .slice Ao17 t246.length co17] ?_; (with_reducible refine (spec_l4Holds.calls k2 _ _ l1 _ _ t246 t249 _ ?side1 ?side2 ?side3 ?side4 A14.out).mono ?_); (case side1 => exact cm_ (Kd.C_below HR1.out HB.out)); (case side2 => exact HC1.out); (case side3 => exact cm_ (Kd.R_reads' HO248.out).2.2); (case side4 => exact (Kd.R_reads' HO248.out).2.1); rintro e w' ⟨rfl, ⟨nd, rfl⟩⟩; refine ⟨_, rfl, ?_⟩) | ((with_reducible refine gate_builtin (b := .append) (xs := #[.tmp 24, .tmp 30]) rfl ?_); at_builtin; refine Kd.R_append Kd.bool (w0 := w) w.heap.size rfl (.tmp 24) (.tmp 30) 34 4 (.bool false) 1 rfl Try.underlying34 info4 rfl (by decide) (by omega) u6 x6_2 t249 [.bool t249] (fun k_ => some k_ ≠ (.slice Ao17 t246.length co17 : Value).ownBlock) (fun _ => False) rfl rfl ?aP (fun _ hk => hk.elim) ?aF ?aO ?aB ?aS ?aL ?_; (case aP => exact rfl); (case aB => exact (bq_)); (case aF => exact (fun k_ hk => Kd.fresh' (Kd.R_lt (rq_ HO248.out)) k_ hk)); (case aO => exact (rq_ (Kd.R_mono HO_6.out (fun _ hk => hk.2)))); (case aS => exact (below_size (bq_))); (case aL => have := LMc15.out; omega); intro v251 w18 ho hb hg hat; rw [← Ny250.out] at ho; replace BK244 := am_ (blk_grown (bk_ BK244.out) hg (Kd.R_ne HO_6.out BK244.out (by decide))); replace HO248 := am_ (Kd.R_after (ok := (fun _ => True)) (rq_ HO248.out) hg hat); replace HB := am_ (hb); have HO252 := am_ (ho); clear HO_6; clear ho hb hg hat))
         go_roundg k2
         case measure => have := HJ2.out; have := HK2.out; omega
         case rel => exact ⟨(y250), (wrap64 (x7_2 + 1)), y30_, H', ⟨by have := HJ2.out; have := HK2.out; omega⟩, ⟨rq_ (Kd.R_mono HO252.out (fun _ hk => trivial))⟩, ⟨bk_ BK244.out⟩, ⟨bq_⟩⟩
        ·rw [if_neg c15] at H
         exact absurd H (by simp)
       ·rw [if_neg c12] at H
        have c12b0 : decide (x7_2 < (ji11)) = false := decide_eq_false c12
        clear c12
        replace H := Option.bind_eq_some_iff.mp H
        obtain ⟨⟨t253, t254, t257⟩, A190, H⟩ := H
        replace H : (some (t253, t254, t257, true)) = some (r1, r2, r3, r4) := H
        have A19 := am_ A190
        clear A190
        simp only [Option.some.injEq, Prod.mk.injEq] at H
        obtain ⟨rfl, rfl, rfl, rfl⟩ := H
        obtain ⟨Ao20, co20, eo20⟩ := Kd.R_slice HO_6.out
        subst eo20
        go_wp2_with (first | ((with_reducible refine gl_ 62 rfl ?_); refine goesM_ (some 34) Try.func62 #[.int .i64 a0, .slice Ao20 x6_2.length co20] ?_; (with_reducible refine (spec_l7Of.calls k2 a0 _ _ x6_2 t253 t254 t257 _ ?side1 ?side2 A19.out).mono ?_); (case side1 => exact cm_ (Kd.R_reads' HO_6.out).2.2); (case side2 => exact (Kd.R_reads' HO_6.out).2.1); rintro e w21 ⟨v255, rfl, ho0, hb⟩; refine ⟨_, rfl, ?_⟩; replace HO_6 := am_ (Kd.R_below (rq_ HO_6.out) hb); have HO256 := am_ (Kd.R_lower ho0 (below_size (bq_))); replace BK244 := bb_ BK244 hb; replace HB := bs_ hb; (try clear hb); (try clear ho0); have hcz22_0 := cq_ BK244.out 0 (.int .i64 0); have hcz22_1 := cq_ BK244.out 1 (.slice none 0 0); have hcz22_2 := cq_ BK244.out 2 (.int .i64 0); have hfz22_0 := blk_frozen BK244.out 0; have hfz22_1 := blk_frozen BK244.out 1; have hfz22_2 := blk_frozen BK244.out 2; obtain ⟨Ao23, co23, eo23⟩ := Kd.R_slice HO256.out; subst eo23))
        refine bodyPost_ret (results_ct rfl _ _ gb244 30 #[.int .i64 t253, .slice Ao23 t254.length co23, .int .i64 t257] (0, 0) _ rfl (bu_ BK244.out) Try.underlying30 rfl (by kernel_rfl)) rfl ?_
        exact ⟨_, by first | rfl | (simp [errW_none, errW_some] <;> rfl) | (simp only [← hji9, ← hji11]; first | rfl | (simp [errW_none, errW_some] <;> rfl)) | (simp [*, errW_none, errW_some] <;> rfl), rq_ (Kd.R_mono (Kd.R_far (p := ⟨gb244, 2, none⟩) (Kd.R_far (p := ⟨gb244, 1, none⟩) (Kd.R_far (p := ⟨gb244, 0, none⟩) (Kd.R_types HO256.out BK244.out (by decide)) (fun _ hk => hk.2) (.int .i64 t253)) (fun _ hk => hk.2) (.slice Ao23 t254.length co23)) (fun _ hk => hk.2) (.int .i64 t257)) (fun _ hk => trivial)), bq_⟩
      ·rw [if_neg c10] at H
       exact absurd H (by simp)
def impl_variable.f (a0 : Int) : Option Int := some (if a0 < wrap64 (-a0) then wrap64 (-a0) else a0)
set_option maxHeartbeats 8000000 in
set_option maxRecDepth 100000 in
theorem impl_variable.calls (a0 : Int) (r : Int) (w : World) (h : impl_variable.f a0 = some r) :
  Calls Try.prog 98 #[.int .i64 a0] w fun e w' => e = .returned (.int .i64 r) ∧ Drawn0 w w' := by
 obtain rfl := Option.some.inj h
 clear h
 go_enter Try.func98, Try.ntmps98
 go_wp2
 all_goals go_ret
 all_goals exact ⟨by first | rfl | (simp; done) | (simp [*]; done), by repeat (first | exact Drawn0.refl _ | apply Drawn0.step)⟩
def impl_isLiteral.f (a0 a1 : Int) : Option Bool := if a0 = 0 then some false else impl_in.f a0 (wrap64 (-a1)) a1
set_option maxHeartbeats 8000000 in
set_option maxRecDepth 100000 in
theorem impl_isLiteral.calls (a0 a1 : Int) (r : Bool) (w : World) (h : impl_isLiteral.f a0 a1 = some r) :
  Calls Try.prog 116 #[.int .i64 a0, .int .i64 a1] w fun e w' => e = .returned (.bool r) ∧ Drawn0 w w' := by
 unfold impl_isLiteral.f at h
 by_cases c : a0 = 0
 ·rw [if_pos c] at h
  obtain rfl := Option.some.inj h
  have c1 : (a0 != 0) = false := bne_eq_false_iff_eq.mpr c
  have c2 : (a0 == 0) = true := beq_iff_eq.mpr c
  clear h c
  go_enter Try.func116, Try.ntmps116
  go_wp2
  go_ret
  exact ⟨by first | rfl | (simp; done) | (simp [*]; done), by repeat (first | exact Drawn0.refl _ | apply Drawn0.step)⟩
 ·rw [if_neg c] at h
  have A7 := am_ h
  have c1 : (a0 != 0) = true := bne_iff_ne.mpr c
  have c2 : (a0 == 0) = false := beq_eq_false_iff_ne.mpr c
  clear h c
  go_enter Try.func116, Try.ntmps116
  have eg := fun args w => enters_ (P := Try.prog) Try.func68 (by kernel_rfl) rfl args w
  go_wp2_with (go_at_call 68; refine (impl_in.calls a0 (wrap64 (-a1)) a1 r _ A7.out).mono ?_; rintro e w' ⟨rfl, ⟨nd, rfl⟩⟩)
  go_ret
  exact ⟨by first | rfl | (simp; done) | (simp [*]; done), by repeat (first | exact Drawn0.refl _ | apply Drawn0.step)⟩
theorem impl_isClause.cl_drewN {w : World} {p : Addr} {v : Value} (h : w.cell? p = some v) (n : Nat) : (w.drewN n).cell? p = some v := (Below.cell (pw_below_drewN (Below.refl (p.block + 1) w) n) (Nat.lt_succ_self _)).trans h
theorem impl_isClause.cl_drawn {w W : World} {p : Addr} {v : Value} (h : w.cell? p = some v) (hd : Drawn0 w W) : W.cell? p = some v := by
 obtain ⟨m, rfl⟩ := hd
 exact impl_isClause.cl_drewN h m
def impl_isClause.np (n x : Int) : Option Bool := (impl_variable.f x).bind fun a => (impl_variable.f n).bind fun b => some (a == b)
set_option maxHeartbeats 8000000 in
set_option maxRecDepth 100000 in
theorem impl_isClause.np_calls (n : Int) (B : Nat) (x : Int) (r : Bool) (w : World) (hcl : w.cell? ⟨B, 0, none⟩ = some (.int .i64 n)) (h : impl_isClause.np n x = some r) :
  Calls Try.prog 117 #[.int .i64 x, .pointer (some ⟨B, 0, none⟩)] w fun e w' => e = .returned (.bool r) ∧ Drawn0 w w' := by
 obtain ⟨a, A70, H⟩ := Option.bind_eq_some_iff.mp h
 obtain ⟨b, A80, H⟩ := Option.bind_eq_some_iff.mp H
 obtain rfl := Option.some.inj H
 have A7 := am_ A70
 have A8 := am_ A80
 clear A70 A80 H h
 go_enter Try.func117, Try.ntmps117
 go_wp2
 go_quiet (first | (go_at_call 98; exact Calls.quiet_of ((impl_variable.calls x a _ A7.out).mono (fun _ _ h_ => ⟨h_.1, h_.2.1⟩))) | (go_at_call 98; exact Calls.quiet_of ((impl_variable.calls n b _ A8.out).mono (fun _ _ h_ => ⟨h_.1, h_.2.1⟩))))
 go_wp2
 go_ret
 exact ⟨by first | rfl | (simp; done) | (simp [*]; done), by repeat (first | exact Drawn0.refl _ | apply Drawn0.step)⟩
def impl_isClause.idx : Nat → (Int → Option Bool) → List Int → Int → Option Int
 | 0, _, _, _ => none
 | k + 1, p, l, i => if i < (l.length : Int) then (if 0 ≤ i then ((p (rd l i)).bind fun t => (if t = true then some i else impl_isClause.idx k p l (wrap64 (i + 1)))) else none) else some (-1)
set_option maxHeartbeats 8000000 in
set_option maxRecDepth 100000 in
theorem impl_isClause.idx_calls (k : Nat) (B : Nat) (p : Int → Option Bool) (A0 : Option Addr) (c0 : Nat) (l0 : List Int) (r : Int) (w : World) (hp : ∀ (W : World) (x : Int) (v : Bool), Drawn0 w W → p x = some v → Calls Try.prog 117 #[.int .i64 x, .pointer (some ⟨B, 0, none⟩)] W fun e w' => e = .returned (.bool v) ∧ Drawn0 W w') (hr0 : Kd.C (Kd.int .i64) w A0 l0.length l0) (h : impl_isClause.idx k p l0 0 = some r) :
  Calls Try.prog 108 #[.slice A0 l0.length c0, .func (.func 117) #[] #[.pointer (some ⟨B, 0, none⟩)]] w fun e w' => e = .returned (.int .i64 r) ∧ Drawn0 w w' := by
 have HR0 := am_ hr0
 have HP := am_ hp
 clear hr0 hp
 have H' := am_ h
 clear h
 have eg := fun args w => enters_ (P := Try.prog) Try.func117 (by kernel_rfl) rfl args w
 go_enter Try.func108, Try.ntmps108
 go_wp2
 go_loopg [5, 8] k (fun kq v5 v8 w' => ∃ (x8 : Int), v8 = .int .i64 x8 ∧ Aside0 (impl_isClause.idx kq p l0 x8 = some r) ∧ Aside0 (kq ≤ k) ∧ Drawn0 w w')
 case atStart => exact ⟨0, y30_, H', ⟨Nat.le_refl _⟩, by repeat (first | exact Drawn0.refl _ | apply Drawn0.step)⟩
 case round =>
  clear H'
  try clear p2
  obtain ⟨x8, rfl, HA, HK1, ⟨m1, rfl⟩⟩ := hrel
  cases gk with
  | zero => exact absurd HA.out (by simp [impl_isClause.idx])
  | succ k1 =>
   have H := HA.out
   clear HA
   simp only [impl_isClause.idx] at H
   by_cases c4 : x8 < (l0.length : Int)
   ·rw [if_pos c4] at H
    have c4b0 : decide (x8 < (l0.length : Int)) = true := decide_eq_true c4
    by_cases c5 : 0 ≤ x8
    ·rw [if_pos c5] at H
     have c5b0 : decide (0 ≤ x8) = true := decide_eq_true c5
     obtain ⟨ad101, e101, hx101_0⟩ := Kd.at_int HR0.out x8 c5 c4
     cases e101
     have p101 := eq_true c5
     have q101 := eq_true c4
     clear c5 c4
     replace H := Option.bind_eq_some_iff.mp H
     obtain ⟨t102, A70, H⟩ := H
     have A7 := am_ A70
     clear A70
     by_cases c8 : t102 = true
     ·subst c8
      have H1 : some x8 = some r := by rw [if_pos rfl] at H; exact H
      clear H
      obtain rfl := Option.some.inj H1
      clear H1
      go_wp2_with (go_at_call 117; refine (HP.out _ (rd l0 x8) true y28_ A7.out).mono ?_; rintro e w' ⟨rfl, ⟨nd, rfl⟩⟩)
      go_ret
      exact ⟨by first | rfl | (simp; done) | (simp [*]; done), by repeat (first | exact Drawn0.refl _ | apply Drawn0.step)⟩
     ·replace c8 := Bool.eq_false_iff.mpr c8
      subst c8
      have H1 : impl_isClause.idx k1 p l0 (wrap64 (x8 + 1)) = some r := by rw [if_neg (show ¬ (false = true) by decide)] at H; exact H
      clear H
      have H' := am_ H1
      clear H1
      go_wp2_with (go_at_call 117; refine (HP.out _ (rd l0 x8) false y28_ A7.out).mono ?_; rintro e w' ⟨rfl, ⟨nd, rfl⟩⟩)
      go_roundg k1
      case measure => have := HK1.out; omega
      case rel => exact ⟨(wrap64 (x8 + 1)), y30_, H', ⟨by have := HK1.out; omega⟩, by repeat (first | exact Drawn0.refl _ | apply Drawn0.step)⟩
    ·rw [if_neg c5] at H
     exact absurd H (by simp)
   ·rw [if_neg c4] at H
    have c4b0 : decide (x8 < (l0.length : Int)) = false := decide_eq_false c4
    clear c4
    obtain rfl := Option.some.inj H
    go_wp2
    go_ret
    exact ⟨by first | rfl | (simp; done) | (simp [*]; done), by repeat (first | exact Drawn0.refl _ | apply Drawn0.step)⟩
def impl_isClause.any (k : Nat) (p : Int → Option Bool) (l : List Int) : Option Bool := (impl_isClause.idx k p l 0).bind fun t => some (decide (t ≥ 0))
set_option maxHeartbeats 8000000 in
set_option maxRecDepth 100000 in
theorem impl_isClause.any_calls (k : Nat) (B : Nat) (p : Int → Option Bool) (A0 : Option Addr) (c0 n0 : Nat) (l0 : List Int) (r : Bool) (w : World) (hp : ∀ (W : World) (x : Int) (v : Bool), Drawn0 w W → p x = some v → Calls Try.prog 117 #[.int .i64 x, .pointer (some ⟨B, 0, none⟩)] W fun e w' => e = .returned (.bool v) ∧ Drawn0 W w') (hr0 : Kd.C (Kd.int .i64) w A0 n0 l0) (h : impl_isClause.any k p l0 = some r) :
  Calls Try.prog 96 #[.slice A0 n0 c0, .func (.func 117) #[] #[.pointer (some ⟨B, 0, none⟩)]] w fun e w' => e = .returned (.bool r) ∧ Drawn0 w w' := by
 obtain rfl : n0 = l0.length := (Kd.C_len hr0).symm
 have HR0 := am_ hr0
 have HP := am_ hp
 clear hr0 hp
 obtain ⟨t, A70, H⟩ := Option.bind_eq_some_iff.mp h
 obtain rfl := Option.some.inj H
 have A7 := am_ A70
 clear A70 H h
 go_enter Try.func96, Try.ntmps96
 have eg := fun args w => enters_ (P := Try.prog) Try.func108 (by kernel_rfl) rfl args w
 go_wp2_with (go_at_call 108; refine (impl_isClause.idx_calls k B p A0 c0 l0 t _ HP.out HR0.out A7.out).mono ?_; rintro e w' ⟨rfl, ⟨nd, rfl⟩⟩)
 go_ret
 exact ⟨by first | rfl | (simp; done) | (simp [*]; done), by repeat (first | exact Drawn0.refl _ | apply Drawn0.step)⟩
def impl_isClause.l0 : Nat → List Int → Int → Int → Option Bool
 | 0, _, _, _ => none
 | k + 1, c, vars, i => if i < (c.length : Int) then (if 0 ≤ i then ((impl_isLiteral.f (rd c i) vars).bind fun t => (if t = true then ((impl_isClause.any k (impl_isClause.np (rd c i)) (c.take i.toNat)).bind fun u => (if u = true then some false else impl_isClause.l0 k c vars (wrap64 (i + 1)))) else some false)) else none) else some (decide ((c.length : Int) ≤ 12))
def impl_isClause.f (k : Nat) (l0 : List Int) (a1 : Int) : Option Bool := impl_isClause.l0 k l0 a1 0
set_option maxHeartbeats 8000000 in
set_option maxRecDepth 100000 in
theorem impl_isClause.calls (k : Nat) (A0 : Option Addr) (c0 : Nat) (l0 : List Int) (a1 : Int) (r : Bool) (w : World) (hr0 : Kd.C (Kd.int .i64) w A0 l0.length l0) (hc0 : l0.length ≤ c0) (h : impl_isClause.f k l0 a1 = some r) :
  Calls Try.prog 107 #[.slice A0 l0.length c0, .int .i64 a1] w fun e w' => e = .returned (.bool r) ∧ Below w.heap.size w w' := by
 have HR0 := am_ hr0
 have HC0 := am_ hc0
 have HB := am_ (Below.refl w.heap.size w)
 clear hr0 hc0
 unfold impl_isClause.f at h
 have H' := am_ h
 clear h
 go_enter Try.func107, Try.ntmps107
 go_wp2
 go_loopg [9] k (fun kq v9 w' => ∃ (x : Int), v9 = .int .i64 x ∧ Aside0 (impl_isClause.l0 kq l0 a1 x = some r) ∧ Aside0 (kq ≤ k) ∧ Aside0 (Below w.heap.size w w'))
 case atStart => exact ⟨0, y30_, H', ⟨Nat.le_refl _⟩, ⟨(bq_)⟩⟩
 case round =>
  clear H' HB
  obtain ⟨x, rfl, HA, HK1, HB⟩ := hrel
  cases gk with
  | zero => exact absurd HA.out (by simp [impl_isClause.l0])
  | succ k1 =>
   have H := HA.out
   clear HA
   simp only [impl_isClause.l0] at H
   by_cases c6 : x < (l0.length : Int)
   ·rw [if_pos c6] at H
    have c6b0 : decide (x < (l0.length : Int)) = true := decide_eq_true c6
    by_cases c7 : 0 ≤ x
    ·rw [if_pos c7] at H
     obtain ⟨ad, e195, hx195_0⟩ := Kd.at_int (Kd.C_below HR0.out HB.out) x c7 c6
     cases e195
     have p102 := eq_true c7
     have q102 := eq_true c6
     have HL := am_ (show x.toNat ≤ l0.length from by omega)
     have q19 : (x : Int) ≤ ((l0.length : Int) : Int) := by omega
     obtain ⟨i019, hi019, _, hsz19, _⟩ := info_parts info3
     have hcut19 := cut_to (P := Try.prog) 88 3 .i64 Try.underlying88 hi019 (some ad) l0.length c0 x c7 q19 HC0.out
     clear c6 c7 hi019 hsz19
     replace q19 := eq_true q19
     obtain ⟨t, A70, H⟩ := Option.bind_eq_some_iff.mp H
     have A7 := am_ A70
     clear A70
     have eg1 := fun args w => enters_ (P := Try.prog) Try.func116 (by kernel_rfl) rfl args w
     have eg2 := fun args w => enters_ (P := Try.prog) Try.func96 (by kernel_rfl) rfl args w
     by_cases c8 : t = true
     ·subst c8
      rw [if_pos rfl] at H
      obtain ⟨u, A80, H⟩ := Option.bind_eq_some_iff.mp H
      have A8 := am_ A80
      clear A80
      by_cases c9 : u = true
      ·subst c9
       rw [if_pos rfl] at H
       obtain rfl := Option.some.inj H
       clear H
       go_wp2_with (first | ((with_reducible refine gate_dst (N := 6) rfl ?_); refine boxq_ (N := 6) (cs := #[.int .i64 0]) (t := 3) ?_; intro gb hg w27 hbox hb; have BK := am_ hbox; have GE1 := am_ (show w.heap.size ≤ gb from by rw [hg]; exact below_size (bq_)); replace HB := bs_ hb; clear hg hbox hb; have hcz0 := cq_ BK.out 0 (.int .i64 0); have hfz0 := blk_frozen BK.out 0) | ((with_reducible refine gate_store (t := 3) (p := 6) rfl ?_); refine store_event (t := 3) (p := 6) (v := ?vo_w29) (w1 := (w27.setCell ⟨gb, 0, none⟩ (.int .i64 (rd l0 x)))) ?hg ?ho ?hn ?hr ?_; (case ho => rfl); (case hg => rfl); (case hn => rfl); (case hr => first | (go_simp; done) | (go_simp; rfl)); intro w29 hw; replace HB := am_ (show Below w.heap.size w w29 from by rw [hw]; exact below_set HB.out GE1.out); replace BK : Aside0 (w29.heap[gb]? = some (.cells #[.int .i64 (rd l0 x)] 3 (0, 0))) := ⟨by rw [hw]; refine blk_put (cs := #[.int .i64 0]) ?_ 0 _ rfl; exact BK.out⟩; clear hw hcz0 hfz0; have hcz0 := cq_ BK.out 0 (.int .i64 (rd l0 x)); have hfz0 := blk_frozen BK.out 0) | (go_at_call 116; refine (impl_isLiteral.calls (rd l0 x) a1 true _ A7.out).mono ?_; rintro e w' ⟨rfl, ⟨nd, rfl⟩⟩) | (go_at_call 96; refine (impl_isClause.any_calls k1 gb (impl_isClause.np (rd l0 x)) (some ad) c0 x.toNat (l0.take x.toNat) true _ (fun W y v hW hv => impl_isClause.np_calls (rd l0 x) gb y v W (impl_isClause.cl_drawn (by repeat (first | exact hcz0 | apply impl_isClause.cl_drewN)) hW) hv) (by (with_reducible repeat (first | apply Kd.C_alloc | apply Kd.C_drewN | apply Kd.C_drew)); have n_ := Kd.C_take (m := x.toNat) (Kd.C_below HR0.out HB.out) HL.out; rw [List.length_take, Nat.min_eq_left HL.out] at n_; exact n_) A8.out).mono ?_; rintro e w' ⟨rfl, ⟨nd2, rfl⟩⟩))
       go_ret
       exact ⟨by first | rfl | (simp; done) | (simp [*]; done), (bq_)⟩
      ·replace c9 := Bool.eq_false_iff.mpr c9
       subst c9
       rw [if_neg (by simp)] at H
       have H' := am_ H
       clear H
       go_wp2_with (first | ((with_reducible refine gate_dst (N := 6) rfl ?_); refine boxq_ (N := 6) (cs := #[.int .i64 0]) (t := 3) ?_; intro gb hg w27 hbox hb; have BK := am_ hbox; have GE1 := am_ (show w.heap.size ≤ gb from by rw [hg]; exact below_size (bq_)); replace HB := bs_ hb; clear hg hbox hb; have hcz0 := cq_ BK.out 0 (.int .i64 0); have hfz0 := blk_frozen BK.out 0) | ((with_reducible refine gate_store (t := 3) (p := 6) rfl ?_); refine store_event (t := 3) (p := 6) (v := ?vo_w29) (w1 := (w27.setCell ⟨gb, 0, none⟩ (.int .i64 (rd l0 x)))) ?hg ?ho ?hn ?hr ?_; (case ho => rfl); (case hg => rfl); (case hn => rfl); (case hr => first | (go_simp; done) | (go_simp; rfl)); intro w29 hw; replace HB := am_ (show Below w.heap.size w w29 from by rw [hw]; exact below_set HB.out GE1.out); replace BK : Aside0 (w29.heap[gb]? = some (.cells #[.int .i64 (rd l0 x)] 3 (0, 0))) := ⟨by rw [hw]; refine blk_put (cs := #[.int .i64 0]) ?_ 0 _ rfl; exact BK.out⟩; clear hw hcz0 hfz0; have hcz0 := cq_ BK.out 0 (.int .i64 (rd l0 x)); have hfz0 := blk_frozen BK.out 0) | (go_at_call 116; refine (impl_isLiteral.calls (rd l0 x) a1 true _ A7.out).mono ?_; rintro e w' ⟨rfl, ⟨nd, rfl⟩⟩) | (go_at_call 96; refine (impl_isClause.any_calls k1 gb (impl_isClause.np (rd l0 x)) (some ad) c0 x.toNat (l0.take x.toNat) false _ (fun W y v hW hv => impl_isClause.np_calls (rd l0 x) gb y v W (impl_isClause.cl_drawn (by repeat (first | exact hcz0 | apply impl_isClause.cl_drewN)) hW) hv) (by (with_reducible repeat (first | apply Kd.C_alloc | apply Kd.C_drewN | apply Kd.C_drew)); have n_ := Kd.C_take (m := x.toNat) (Kd.C_below HR0.out HB.out) HL.out; rw [List.length_take, Nat.min_eq_left HL.out] at n_; exact n_) A8.out).mono ?_; rintro e w' ⟨rfl, ⟨nd2, rfl⟩⟩))
       go_roundg k1
       case measure => have := HK1.out; omega
       case rel => exact ⟨(wrap64 (x + 1)), y30_, H', ⟨by have := HK1.out; omega⟩, ⟨(bq_)⟩⟩
     ·replace c8 := Bool.eq_false_iff.mpr c8
      subst c8
      rw [if_neg (by simp)] at H
      obtain rfl := Option.some.inj H
      clear H
      go_wp2_with (first | ((with_reducible refine gate_dst (N := 6) rfl ?_); refine boxq_ (N := 6) (cs := #[.int .i64 0]) (t := 3) ?_; intro gb hg w27 hbox hb; have BK := am_ hbox; have GE1 := am_ (show w.heap.size ≤ gb from by rw [hg]; exact below_size (bq_)); replace HB := bs_ hb; clear hg hbox hb; have hcz0 := cq_ BK.out 0 (.int .i64 0); have hfz0 := blk_frozen BK.out 0) | ((with_reducible refine gate_store (t := 3) (p := 6) rfl ?_); refine store_event (t := 3) (p := 6) (v := ?vo_w29) (w1 := (w27.setCell ⟨gb, 0, none⟩ (.int .i64 (rd l0 x)))) ?hg ?ho ?hn ?hr ?_; (case ho => rfl); (case hg => rfl); (case hn => rfl); (case hr => first | (go_simp; done) | (go_simp; rfl)); intro w29 hw; replace HB := am_ (show Below w.heap.size w w29 from by rw [hw]; exact below_set HB.out GE1.out); replace BK : Aside0 (w29.heap[gb]? = some (.cells #[.int .i64 (rd l0 x)] 3 (0, 0))) := ⟨by rw [hw]; refine blk_put (cs := #[.int .i64 0]) ?_ 0 _ rfl; exact BK.out⟩; clear hw hcz0 hfz0; have hcz0 := cq_ BK.out 0 (.int .i64 (rd l0 x)); have hfz0 := blk_frozen BK.out 0) | (go_at_call 116; refine (impl_isLiteral.calls (rd l0 x) a1 false _ A7.out).mono ?_; rintro e w' ⟨rfl, ⟨nd, rfl⟩⟩))
      go_ret
      exact ⟨by first | rfl | (simp; done) | (simp [*]; done), (bq_)⟩
    ·rw [if_neg c7] at H; cases H
   ·rw [if_neg c6] at H
    have c6b0 : decide (x < (l0.length : Int)) = false := decide_eq_false c6
    clear c6
    obtain rfl := Option.some.inj H
    clear H
    go_wp2
    go_ret
    exact ⟨by first | rfl | (simp; done) | (simp [*]; done), (bq_)⟩
def impl_areClauses.idx : Nat → (List Int → Option Bool) → List (List Int) → Int → Option Int
 | 0, _, _, _ => none
 | k + 1, p, l, i => if i < (l.length : Int) then (if 0 ≤ i then ((p (rd_L6 l i)).bind fun t => (if t = true then some i else impl_areClauses.idx k p l (wrap64 (i + 1)))) else none) else some (-1)
set_option maxHeartbeats 8000000 in
set_option maxRecDepth 100000 in
theorem impl_areClauses.idx_calls (k : Nat) (B : Nat) (p : List Int → Option Bool) (A0 : Option Addr) (c0 : Nat) (l0 : List (List Int)) (r : Int) (w : World) (hp : ∀ (W : World) (A : Option Addr) (c : Nat) (x : List Int) (v : Bool), Below w.heap.size w W → Kd.C (Kd.int .i64) W A x.length x → x.length ≤ c → p x = some v → Calls Try.prog 106 #[.slice A x.length c, .pointer (some ⟨B, 0, none⟩)] W fun e w' => e = .returned (.bool v) ∧ Below W.heap.size W w') (hr0 : Kd.C (Kd.slice 3 (Kd.int .i64)) w A0 l0.length l0) (h : impl_areClauses.idx k p l0 0 = some r) :
  Calls Try.prog 115 #[.slice A0 l0.length c0, .func (.func 106) #[] #[.pointer (some ⟨B, 0, none⟩)]] w fun e w' => e = .returned (.int .i64 r) ∧ Below w.heap.size w w' := by
 have HR0 := am_ hr0
 have HP := am_ hp
 have HB := am_ (Below.refl w.heap.size w)
 clear hr0 hp
 have H' := am_ h
 clear h
 have eg := fun args w => enters_ (P := Try.prog) Try.func106 (by kernel_rfl) rfl args w
 go_enter Try.func115, Try.ntmps115
 go_wp2
 go_loopg [5, 8] k (fun kq v5 v8 w' => ∃ (x8 : Int), v8 = .int .i64 x8 ∧ Aside0 (impl_areClauses.idx kq p l0 x8 = some r) ∧ Aside0 (kq ≤ k) ∧ Aside0 (Below w.heap.size w w'))
 case atStart => exact ⟨0, y30_, H', ⟨Nat.le_refl _⟩, ⟨(bq_)⟩⟩
 case round =>
  clear H' HB
  try clear p2
  obtain ⟨x8, rfl, HA, HK1, HB⟩ := hrel
  cases gk with
  | zero => exact absurd HA.out (by simp [impl_areClauses.idx])
  | succ k1 =>
   have H := HA.out
   clear HA
   simp only [impl_areClauses.idx] at H
   by_cases c4 : x8 < (l0.length : Int)
   ·rw [if_pos c4] at H
    have c4b0 : decide (x8 < (l0.length : Int)) = true := decide_eq_true c4
    by_cases c5 : 0 ≤ x8
    ·rw [if_pos c5] at H
     have c5b0 : decide (0 ≤ x8) = true := decide_eq_true c5
     obtain ⟨ad101, A1, c1, e101, hx101_0, hl1, hi1⟩ := at_L6 (Kd.C_below HR0.out HB.out) x8 c5 c4
     cases e101
     have p101 := eq_true c5
     have q101 := eq_true c4
     have HI := am_ hi1
     have HL1 := am_ hl1
     clear c5 c4 hi1 hl1
     replace H := Option.bind_eq_some_iff.mp H
     obtain ⟨t102, A70, H⟩ := H
     have A7 := am_ A70
     clear A70
     by_cases c8 : t102 = true
     ·subst c8
      have H1 : some x8 = some r := by rw [if_pos rfl] at H; exact H
      clear H
      obtain rfl := Option.some.inj H1
      clear H1
      go_wp2_with (go_at_call 106; refine (HP.out _ A1 c1 (rd_L6 l0 x8) true (bq_) (cm_ HI.out) HL1.out A7.out).mono ?_; rintro e w' ⟨rfl, hb⟩; replace HB := bs_ hb; clear hb)
      go_ret
      exact ⟨by first | rfl | (simp; done) | (simp [*]; done), (bq_)⟩
     ·replace c8 := Bool.eq_false_iff.mpr c8
      subst c8
      have H1 : impl_areClauses.idx k1 p l0 (wrap64 (x8 + 1)) = some r := by rw [if_neg (show ¬ (false = true) by decide)] at H; exact H
      clear H
      have H' := am_ H1
      clear H1
      go_wp2_with (go_at_call 106; refine (HP.out _ A1 c1 (rd_L6 l0 x8) false (bq_) (cm_ HI.out) HL1.out A7.out).mono ?_; rintro e w' ⟨rfl, hb⟩; replace HB := bs_ hb; clear hb)
      go_roundg k1
      case measure => have := HK1.out; omega
      case rel => exact ⟨(wrap64 (x8 + 1)), y30_, H', ⟨by have := HK1.out; omega⟩, ⟨(bq_)⟩⟩
    ·rw [if_neg c5] at H
     exact absurd H (by simp)
   ·rw [if_neg c4] at H
    have c4b0 : decide (x8 < (l0.length : Int)) = false := decide_eq_false c4
    clear c4
    obtain rfl := Option.some.inj H
    go_wp2
    go_ret
    exact ⟨by first | rfl | (simp; done) | (simp [*]; done), (bq_)⟩
def impl_areClauses.any (k : Nat) (p : List Int → Option Bool) (l : List (List Int)) : Option Bool := (impl_areClauses.idx k p l 0).bind fun t => some (decide (t ≥ 0))
set_option maxHeartbeats 8000000 in
set_option maxRecDepth 100000 in
theorem impl_areClauses.any_calls (k : Nat) (B : Nat) (p : List Int → Option Bool) (A0 : Option Addr) (c0 : Nat) (l0 : List (List Int)) (r : Bool) (w : World) (hp : ∀ (W : World) (A : Option Addr) (c : Nat) (x : List Int) (v : Bool), Below w.heap.size w W → Kd.C (Kd.int .i64) W A x.length x → x.length ≤ c → p x = some v → Calls Try.prog 106 #[.slice A x.length c, .pointer (some ⟨B, 0, none⟩)] W fun e w' => e = .returned (.bool v) ∧ Below W.heap.size W w') (hr0 : Kd.C (Kd.slice 3 (Kd.int .i64)) w A0 l0.length l0) (h : impl_areClauses.any k p l0 = some r) :
  Calls Try.prog 105 #[.slice A0 l0.length c0, .func (.func 106) #[] #[.pointer (some ⟨B, 0, none⟩)]] w fun e w' => e = .returned (.bool r) ∧ Below w.heap.size w w' := by
 have HR0 := am_ hr0
 have HP := am_ hp
 clear hr0 hp
 obtain ⟨t, A70, H⟩ := Option.bind_eq_some_iff.mp h
 obtain rfl := Option.some.inj H
 have A7 := am_ A70
 clear A70 H h
 go_enter Try.func105, Try.ntmps105
 have eg := fun args w => enters_ (P := Try.prog) Try.func115 (by kernel_rfl) rfl args w
 go_wp2_with (go_at_call 115; refine (impl_areClauses.idx_calls k B p A0 c0 l0 t _ HP.out HR0.out A7.out).mono ?_; rintro e w' ⟨rfl, hb⟩; have HB := am_ hb; clear hb)
 go_ret
 exact ⟨by first | rfl | (simp; done) | (simp [*]; done), (bq_)⟩
def impl_areClauses.np (k : Nat) (n : Int) (x : List Int) : Option Bool := (impl_isClause.f k x n).bind fun a => some (!a)
set_option maxHeartbeats 8000000 in
set_option maxRecDepth 100000 in
theorem impl_areClauses.np_calls (k : Nat) (n : Int) (B : Nat) (A : Option Addr) (c : Nat) (x : List Int) (r : Bool) (w : World) (hcl : w.cell? ⟨B, 0, none⟩ = some (.int .i64 n)) (hr : Kd.C (Kd.int .i64) w A x.length x) (hc : x.length ≤ c) (h : impl_areClauses.np k n x = some r) :
  Calls Try.prog 106 #[.slice A x.length c, .pointer (some ⟨B, 0, none⟩)] w fun e w' => e = .returned (.bool r) ∧ Below w.heap.size w w' := by
 obtain ⟨a, A70, H⟩ := Option.bind_eq_some_iff.mp h
 obtain rfl := Option.some.inj H
 have A7 := am_ A70
 have HR := am_ hr
 have HC := am_ hc
 clear A70 H h hr hc
 have eg := fun args w => enters_ (P := Try.prog) Try.func107 (by kernel_rfl) rfl args w
 go_enter Try.func106, Try.ntmps106
 go_wp2_with (go_at_call 107; refine (impl_isClause.calls k A c x n a _ (cm_ HR.out) HC.out A7.out).mono ?_; rintro e w' ⟨rfl, hb⟩; have HB := am_ (below_step (by repeat (first | exact Below.refl _ _ | apply below_alloc | apply pw_below_drewN | apply below_drew1)) hb); clear hb)
 go_ret
 exact ⟨by first | rfl | (simp; done) | (simp [*]; done), (bq_)⟩
def impl_areClauses.f (k : Nat) (l0 : List (List Int)) (a1 : Int) : Option Bool := (impl_areClauses.any k (impl_areClauses.np k a1) l0).bind fun t => some (!t)
set_option maxHeartbeats 8000000 in
set_option maxRecDepth 100000 in
theorem impl_areClauses.calls (k : Nat) (A0 : Option Addr) (c0 : Nat) (l0 : List (List Int)) (a1 : Int) (r : Bool) (w : World) (hr0 : Kd.C (Kd.slice 3 (Kd.int .i64)) w A0 l0.length l0) (hc0 : l0.length ≤ c0) (h : impl_areClauses.f k l0 a1 = some r) :
  Calls Try.prog 95 #[.slice A0 l0.length c0, .int .i64 a1] w fun e w' => e = .returned (.bool r) ∧ Below w.heap.size w w' := by
 have HR0 := am_ hr0
 have HB := am_ (Below.refl w.heap.size w)
 clear hr0 hc0
 obtain ⟨a, A70, H⟩ := Option.bind_eq_some_iff.mp h
 obtain rfl := Option.some.inj H
 have A7 := am_ A70
 clear A70 H h
 have eg := fun args w => enters_ (P := Try.prog) Try.func105 (by kernel_rfl) rfl args w
 go_enter Try.func95, Try.ntmps95
 go_wp2_with (first | ((with_reducible refine gate_dst (N := 3) rfl ?_); refine boxq_ (N := 3) (cs := #[.int .i64 a1]) (t := 3) ?_; intro gb hg w27 hbox hb; have BK := am_ hbox; replace HB := bs_ hb; clear hg hbox hb; have hcz0 := cq_ BK.out 0 (.int .i64 a1)) | (go_at_call 105; refine (impl_areClauses.any_calls k gb (impl_areClauses.np k a1) A0 c0 l0 a _ (fun W A c x v hW hC hc hv => impl_areClauses.np_calls k a1 gb A c x v W ((hW.cell (World.block_lt_of_cell? _ _ hcz0)).trans hcz0) hC hc hv) (Kd.C_below HR0.out (bq_)) A7.out).mono ?_; rintro e w' ⟨rfl, hb⟩; replace HB := bs_ hb; clear hb))
 go_ret
 exact ⟨by first | rfl | (simp; done) | (simp [*]; done), (bq_)⟩
def impl_GoodClauses.f (k : Nat) (a0 : Int) (l1 : List (List Int)) : Option (Bool) := (impl_in.f a0 0 12).bind fun t258 => (if t258 = true then (if (l1.length : Int) ≤ 60 then ((impl_areClauses.f k l1 a0).bind fun t259 => (some t259)) else (some false)) else (some false))
set_option maxHeartbeats 8000000 in
set_option maxRecDepth 100000 in
theorem impl_GoodClauses.calls (k : Nat) (a0 : Int) (A1 : Option Addr) (c1 : Nat) (l1 : List (List Int)) (r : Bool) (w : World) (hr1 : Kd.C (Kd.slice 3 (Kd.int .i64)) w A1 l1.length l1) (hc1 : l1.length ≤ c1) (h : impl_GoodClauses.f k a0 l1 = some r) :
  Calls Try.prog 75 #[.int .i64 a0, .slice A1 l1.length c1] w fun e w' => e = .returned (.bool r) ∧ Below w.heap.size w w' := by
 have HR1 := am_ hr1
 have HC1 := am_ hc1
 clear hr1 hc1
 have HB := am_ (Below.refl w.heap.size w)
 have H : ((impl_in.f a0 0 12).bind fun t258 => (if t258 = true then (if (l1.length : Int) ≤ 60 then ((impl_areClauses.f k l1 a0).bind fun t259 => (some t259)) else (some false)) else (some false))) = some r := h
 clear h
 replace H := Option.bind_eq_some_iff.mp H
 obtain ⟨t258, A30, H⟩ := H
 replace H : (if t258 = true then (if (l1.length : Int) ≤ 60 then ((impl_areClauses.f k l1 a0).bind fun t259 => (some t259)) else (some false)) else (some false)) = some r := H
 have A3 := am_ A30
 clear A30
 by_cases c4 : t258 = true
 ·subst c4
  have H1 : (if (l1.length : Int) ≤ 60 then ((impl_areClauses.f k l1 a0).bind fun t259 => (some t259)) else (some false)) = some r := by rw [if_pos rfl] at H; exact H
  clear H
  have H := H1
  clear H1
  by_cases c5 : (l1.length : Int) ≤ 60
  ·rw [if_pos c5] at H
   have c5b0 : decide ((l1.length : Int) ≤ 60) = true := decide_eq_true c5
   have c5b1 : decide (l1.length ≤ 60) = true := decide_eq_true (by omega)
   clear c5
   replace H := Option.bind_eq_some_iff.mp H
   obtain ⟨t259, A60, H⟩ := H
   replace H : (some t259) = some r := H
   have A6 := am_ A60
   clear A60
   obtain rfl := Option.some.inj H
   go_enter Try.func75, Try.ntmps75
   go_wp2_with (first | ((with_reducible refine gl_ 68 rfl ?_); refine goesM_ (some 6) Try.func68 #[.int .i64 a0, .int .i64 0, .int .i64 12] ?_; (with_reducible refine (impl_in.calls a0 0 12 true _ A3.out).mono ?_); rintro e w' ⟨rfl, ⟨nd, rfl⟩⟩; refine ⟨_, rfl, ?_⟩) | (go_at_call 95; (with_reducible refine (impl_areClauses.calls k _ _ l1 a0 t259 _ ?side1 ?side2 A6.out).mono ?_); (case side1 => exact cm_ HR1.out); (case side2 => exact HC1.out); rintro e w7 ⟨rfl, hb⟩; replace HB := bs_ hb; (try clear hb)))
   go_ret
   exact ⟨by first | rfl | (simp [errW_none, errW_some] <;> rfl) | (simp [*, errW_none, errW_some] <;> rfl), bq_⟩
  ·rw [if_neg c5] at H
   have c5b0 : decide ((l1.length : Int) ≤ 60) = false := decide_eq_false c5
   have c5b1 : decide (l1.length ≤ 60) = false := decide_eq_false (by omega)
   clear c5
   obtain rfl := Option.some.inj H
   go_enter Try.func75, Try.ntmps75
   go_wp2_with (first | ((with_reducible refine gl_ 68 rfl ?_); refine goesM_ (some 6) Try.func68 #[.int .i64 a0, .int .i64 0, .int .i64 12] ?_; (with_reducible refine (impl_in.calls a0 0 12 true _ A3.out).mono ?_); rintro e w' ⟨rfl, ⟨nd, rfl⟩⟩; refine ⟨_, rfl, ?_⟩))
   go_ret
   exact ⟨by first | rfl | (simp [errW_none, errW_some] <;> rfl) | (simp [*, errW_none, errW_some] <;> rfl), bq_⟩
 ·replace c4 := Bool.eq_false_iff.mpr c4
  subst c4
  have H1 : (some false) = some r := by rw [if_neg (show ¬ (false = true) by decide)] at H; exact H
  clear H
  have H := H1
  clear H1
  obtain rfl := Option.some.inj H
  go_enter Try.func75, Try.ntmps75
  go_wp2_with (first | ((with_reducible refine gl_ 68 rfl ?_); refine goesM_ (some 6) Try.func68 #[.int .i64 a0, .int .i64 0, .int .i64 12] ?_; (with_reducible refine (impl_in.calls a0 0 12 false _ A3.out).mono ?_); rintro e w' ⟨rfl, ⟨nd, rfl⟩⟩; refine ⟨_, rfl, ?_⟩))
  go_ret
  exact ⟨by first | rfl | (simp [errW_none, errW_some] <;> rfl) | (simp [*, errW_none, errW_some] <;> rfl), bq_⟩
end Go.Proofs.Ytpndhlcbfobelaa.PDX
