import Derived.Test.YtcmhkgpalfljbaaPPAx0
import Derived.Test.YtcmhkgpalfljbaaPPAx11
namespace Go.Proofs.Ytcmhkgpalfljbaa.PPA
open Go.RowKit Go.Proofs.YtcmhkgpalfljbaaW.PrintWords Go.Proofs.YtcmhkgpalfljbaaW.PrintLast Go.Proofs.YtcmhkgpalfljbaaW.PrintMore
attribute [local go_sem] max2_int min2_int max_two min_two max_three min_three max_four min_four   -- for this text's walks alone
set_option linter.unusedVariables false
set_option linter.unusedSimpArgs false
mutual
def spec_l1Cur_step.j0 : Nat → Int → Bool → List Int → Int → Int → Int → Int → Int → Int → Int → Int → Option (Int × Int × Int × Int × Int × Int × Int × Int)
 | 0, _, _, _, _, _, _, _, _, _, _, _ => none
 | k + 1, x1, x16, x1000, x1001, x1002, x337000, x337001, x337002, x337003, x337004, x337005 => if x16 = true then (spec_l1Cur_step.j1 k x1 x1000 x1001 x1002 3 x337001 x337002 x337003 x337004 x337005) else (spec_l1Cur_step.j1 k x1 x1000 x1001 x1002 x337000 x337001 x337002 x337003 x337004 x337005)
def spec_l1Cur_step.j1 : Nat → Int → List Int → Int → Int → Int → Int → Int → Int → Int → Int → Option (Int × Int × Int × Int × Int × Int × Int × Int)
 | 0, _, _, _, _, _, _, _, _, _, _ => none
 | k + 1, x1, x1000, x1001, x1002, x337000, x337001, x337002, x337003, x337004, x337005 => if x337000 = 1 then ((spec_l1Cur_pick.f x1000 x1001 x1002 3).bind fun bt337 => (spec_l1Cur_step.j2 k x1 x1000 bt337.2.1 bt337.2.2 x337000 x337001 x337002 bt337.1 x337004 x337005)) else (if x337000 = 5 then ((spec_l1Cur_pick.f x1000 x1001 x1002 3).bind fun bt340 => (spec_l1Cur_step.j2 k x1 x1000 bt340.2.1 bt340.2.2 x337000 x337001 x337002 bt340.1 x337004 x337005)) else (if x337000 = 9 then ((spec_l1Cur_pick.f x1000 x1001 x1002 3).bind fun bt343 => (spec_l1Cur_step.j2 k x1 x1000 bt343.2.1 bt343.2.2 x337000 x337001 x337002 bt343.1 x337004 x337005)) else (if x337000 = 10 then ((spec_l1Cur_pick.f x1000 x1001 x1002 3).bind fun bt346 => (spec_l1Cur_step.j2 k x1 x1000 bt346.2.1 bt346.2.2 x337000 x337001 x337002 bt346.1 x337004 x337005)) else (spec_l1Cur_step.j2 k x1 x1000 x1001 x1002 x337000 x337001 x337002 x337003 x337004 x337005))))
def spec_l1Cur_step.j2 : Nat → Int → List Int → Int → Int → Int → Int → Int → Int → Int → Int → Option (Int × Int × Int × Int × Int × Int × Int × Int)
 | 0, _, _, _, _, _, _, _, _, _, _ => none
 | k + 1, x1, x1000, x1001, x1002, x337000, x337001, x337002, x337003, x337004, x337005 => if x337000 = 8 then (spec_l1Cur_step.j3 k x1 x1000 x1001 x1002 x337000 x337001 x337002 x337003 x337004 x337005) else ((spec_l1Cur_pick.f x1000 x1001 x1002 3).bind fun bt349 => (spec_l1Cur_step.j3 k x1 x1000 bt349.2.1 bt349.2.2 x337000 x337001 bt349.1 x337003 x337004 x337005))
def spec_l1Cur_step.j3 : Nat → Int → List Int → Int → Int → Int → Int → Int → Int → Int → Int → Option (Int × Int × Int × Int × Int × Int × Int × Int)
 | 0, _, _, _, _, _, _, _, _, _, _ => none
 | k + 1, x1, x1000, x1001, x1002, x337000, x337001, x337002, x337003, x337004, x337005 => if x337000 = 1 then ((spec_l1Cur_pick.f x1000 x1001 x1002 10).bind fun bt352 => (spec_l1Cur_step.j4 k x1 x1000 bt352.2.1 bt352.2.2 x337000 (wrap64 (1 + bt352.1)) x337002 x337003 x337004 x337005)) else (if x337000 = 2 then ((spec_l1Cur_pick.f x1000 x1001 x1002 10).bind fun bt355 => (spec_l1Cur_step.j4 k x1 x1000 bt355.2.1 bt355.2.2 x337000 (wrap64 (1 + bt355.1)) x337002 x337003 x337004 x337005)) else (spec_l1Cur_step.j4 k x1 x1000 x1001 x1002 x337000 x337001 x337002 x337003 x337004 x337005))
def spec_l1Cur_step.j4 : Nat → Int → List Int → Int → Int → Int → Int → Int → Int → Int → Int → Option (Int × Int × Int × Int × Int × Int × Int × Int)
 | 0, _, _, _, _, _, _, _, _, _, _ => none
 | k + 1, x1, x1000, x1001, x1002, x337000, x337001, x337002, x337003, x337004, x337005 => if x337000 = 2 then (spec_l1Cur_step.j5 k x1 x337000 (x337000 == 2) x1000 x1001 x1002 x337000 x337001 x337002 x337003 x337004 x337005) else (spec_l1Cur_step.j5 k x1 x337000 (x337000 == 3) x1000 x1001 x1002 x337000 x337001 x337002 x337003 x337004 x337005)
def spec_l1Cur_step.j5 : Nat → Int → Int → Bool → List Int → Int → Int → Int → Int → Int → Int → Int → Int → Option (Int × Int × Int × Int × Int × Int × Int × Int)
 | 0, _, _, _, _, _, _, _, _, _, _, _, _ => none
 | k + 1, x1, x44, x45, x1000, x1001, x1002, x337000, x337001, x337002, x337003, x337004, x337005 => if x45 = true then ((spec_l1Cur_pick.f x1000 x1001 x1002 20).bind fun bt358 => ((spec_l1Cur_among.f x1000 bt358.2.1 bt358.2.2 (([0, 1, 3, 7, 255, bt358.1] : List Int))).bind fun bt364 => (some (x337000, x337001, x337002, x337003, bt364.1, x337005, bt364.2.1, bt364.2.2)))) else (if x44 = 4 then ((spec_l1Cur_pick.f x1000 x1001 x1002 256).bind fun bt367 => ((spec_l1Cur_pick.f x1000 bt367.2.1 bt367.2.2 250).bind fun bt370 => ((spec_l1Cur_among.f x1000 bt370.2.1 bt370.2.2 (([256, 65535, wrap64 (256 + (wrap64 (bt367.1 * bt370.1)))] : List Int))).bind fun bt376 => (some (x337000, x337001, x337002, x337003, bt376.1, x337005, bt376.2.1, bt376.2.2))))) else (if x44 = 5 then ((spec_l1Cur_pick.f x1000 x1001 x1002 5).bind fun bt379 => (some (x337000, x337001, x337002, x337003, bt379.1, x337005, bt379.2.1, bt379.2.2))) else (if x44 = 6 then (spec_l1Cur_step.j6 k x1 x44 (x44 == 6) x1000 x1001 x1002 x337000 x337001 x337002 x337003 x337004 x337005) else (spec_l1Cur_step.j6 k x1 x44 (x44 == 7) x1000 x1001 x1002 x337000 x337001 x337002 x337003 x337004 x337005))))
def spec_l1Cur_step.j6 : Nat → Int → Int → Bool → List Int → Int → Int → Int → Int → Int → Int → Int → Int → Option (Int × Int × Int × Int × Int × Int × Int × Int)
 | 0, _, _, _, _, _, _, _, _, _, _, _, _ => none
 | k + 1, x1, x44, x71, x1000, x1001, x1002, x337000, x337001, x337002, x337003, x337004, x337005 => if x71 = true then ((spec_l1Cur_pick.f x1000 x1001 x1002 18).bind fun bt382 => (some (x337000, x337001, x337002, x337003, bt382.1, x337005, bt382.2.1, bt382.2.2))) else (if x44 = 8 then (spec_l1Cur_step.j7 k x1 (x44 == 8) x1000 x1001 x1002 x337000 x337001 x337002 x337003 x337004 x337005) else (if x44 = 9 then (spec_l1Cur_step.j7 k x1 (x44 == 9) x1000 x1001 x1002 x337000 x337001 x337002 x337003 x337004 x337005) else (spec_l1Cur_step.j7 k x1 (x44 == 10) x1000 x1001 x1002 x337000 x337001 x337002 x337003 x337004 x337005)))
def spec_l1Cur_step.j7 : Nat → Int → Bool → List Int → Int → Int → Int → Int → Int → Int → Int → Int → Option (Int × Int × Int × Int × Int × Int × Int × Int)
 | 0, _, _, _, _, _, _, _, _, _, _, _ => none
 | k + 1, x1, x77, x1000, x1001, x1002, x337000, x337001, x337002, x337003, x337004, x337005 => if x77 = true then ((spec_l1Least.f 4 (wrap64 (x1 - 1))).bind fun t385 => ((spec_l1Cur_pick.f x1000 x1001 x1002 t385).bind fun bt386 => (some (x337000, x337001, x337002, x337003, x337004, wrap64 (1 + bt386.1), bt386.2.1, bt386.2.2)))) else (some (x337000, x337001, x337002, x337003, x337004, x337005, x1001, x1002))
end
def spec_l1Cur_step.f (k : Nat) (s0_0 : List Int) (s0_1 : Int) (s0_2 : Int) (a1 : Int) : Option (Int × Int × Int × Int × Int × Int × Int × Int) := (spec_l1Cur_among.f s0_0 s0_1 s0_2 (([1, 1, 2, 2, 2, 3, 3, 4, 5, 5, 6, 7, 7, 8, 9, 10, 10] : List Int))).bind fun bt333 => (if bt333.1 ≥ 8 then (spec_l1Cur_step.j0 k a1 (decide (a1 < 2)) s0_0 bt333.2.1 bt333.2.2 bt333.1 0 0 0 0 0) else (spec_l1Cur_step.j0 k a1 false s0_0 bt333.2.1 bt333.2.2 bt333.1 0 0 0 0 0))
set_option maxHeartbeats 8000000 in
set_option maxRecDepth 100000 in
theorem spec_l1Cur_step.calls (k : Nat) (g : Nat) (s0_0 : List Int) (s0_1 : Int) (s0_2 : Int) (a1 : Int) (r1 : Int) (r2 : Int) (r3 : Int) (r4 : Int) (r5 : Int) (r6 : Int) (r7 : Int) (r8 : Int) (w0 w : World) (hI : IsS68 w0 w g s0_0 s0_1 s0_2) (hB : Below w0.heap.size w0 w) (h : spec_l1Cur_step.f k s0_0 s0_1 s0_2 a1 = some (r1, r2, r3, r4, r5, r6, r7, r8)) :
  Calls Try.prog 78 #[.pointer (some ⟨g, 0, none⟩), .int .i64 a1] w fun e w' => e = .returned (.agg #[.int .i64 r1, .int .i64 r2, .int .i64 r3, .int .i64 r4, .int .i64 r5, .int .i64 r6]) ∧ IsS68 w0 w' g s0_0 r7 r8 ∧ Below w0.heap.size w0 w' ∧ KeepBut w w' g none := by
 have hu51 := Try.underlying51
 have HI0 := am_ hI
 have HK := am_ (KeepBut.refl w g none)
 have HL := am_ hB.size
 clear hI
 have HW0 := am_ hB.size
 have HB := am_ hB
 clear hB
 have H : ((spec_l1Cur_among.f s0_0 s0_1 s0_2 (([1, 1, 2, 2, 2, 3, 3, 4, 5, 5, 6, 7, 7, 8, 9, 10, 10] : List Int))).bind fun bt333 => (if bt333.1 ≥ 8 then (spec_l1Cur_step.j0 k a1 (decide (a1 < 2)) s0_0 bt333.2.1 bt333.2.2 bt333.1 0 0 0 0 0) else (spec_l1Cur_step.j0 k a1 false s0_0 bt333.2.1 bt333.2.2 bt333.1 0 0 0 0 0))) = some (r1, r2, r3, r4, r5, r6, r7, r8) := h
 clear h
 obtain ⟨y330, hy330⟩ : ∃ y_ : List Int, y_ = (([1, 1, 2, 2, 2, 3, 3, 4, 5, 5, 6, 7, 7, 8, 9, 10, 10] : List Int)) := ⟨_, rfl⟩
 replace H : ((spec_l1Cur_among.f s0_0 s0_1 s0_2 y330).bind fun bt333 => (if bt333.1 ≥ 8 then (spec_l1Cur_step.j0 k a1 (decide (a1 < 2)) s0_0 bt333.2.1 bt333.2.2 bt333.1 0 0 0 0 0) else (spec_l1Cur_step.j0 k a1 false s0_0 bt333.2.1 bt333.2.2 bt333.1 0 0 0 0 0))) = some (r1, r2, r3, r4, r5, r6, r7, r8) := by first | (rw [hy330]; with_reducible exact H) | (have H2_ := (Option.bind_some _ _).symm.trans H; rw [hy330]; with_reducible exact H2_) | (have H2_ := (Option.bind_some _ _).symm.trans H; with_reducible exact H2_) | with_reducible exact H | (rw [hy330]; exact H) | exact H
 have Ny330 := am_ hy330
 clear hy330
 replace H := Option.bind_eq_some_iff.mp H
 obtain ⟨⟨t333, t334, t335⟩, A30, H⟩ := H
 replace H : (if t333 ≥ 8 then (spec_l1Cur_step.j0 k a1 (decide (a1 < 2)) s0_0 t334 t335 t333 0 0 0 0 0) else (spec_l1Cur_step.j0 k a1 false s0_0 t334 t335 t333 0 0 0 0 0)) = some (r1, r2, r3, r4, r5, r6, r7, r8) := H
 have A3 := am_ A30
 clear A30
 have HC4 := am_ H
 clear H
 go_enter Try.func78, Try.ntmps78
 go_upto_region 2 with (first | ((with_reducible refine gate_dst (N := 4) rfl ?_); refine boxq_ (N := 4) (cs := #[.int .i64 0, .int .i64 0, .int .i64 0, .int .i64 0, .int .i64 0, .int .i64 0]) (t := 51) ?_; intro gb329 hg w5 hbox hb; replace HB := am_ (below_step y6_ hb); have BK329 := am_ (hbox); have GW329 := am_ ((by rw [hg]; exact (keep_size (w := w) (g := g) (row := none) y9_) : w.heap.size ≤ gb329)); have GE329 := am_ ((Nat.le_trans HW0.out (by rw [hg]; exact (keep_size (w := w) (g := g) (row := none) y9_) : w.heap.size ≤ gb329) : w0.heap.size ≤ gb329)); replace HK := am_ (KeepBut.trans y9_ (KeepBut.of_below hb g none) (.inl rfl)); have NB0_329 := am_ ((by rw [hg]; exact Nat.ne_of_lt (IsS68.lt (show IsS68 w0 _ g s0_0 s0_1 s0_2 from by repeat (first | (with_reducible first | exact HI0.out | apply IsS68.alloc | apply IsS68.drewN | apply IsS68.drew | apply IsS68.set_1 | apply IsS68.set_2) | exact HI0.out))) : g ≠ gb329)); have NB329_0 := am_ ((by rw [hg]; exact Nat.ne_of_gt (IsS68.lt (show IsS68 w0 _ g s0_0 s0_1 s0_2 from by repeat (first | (with_reducible first | exact HI0.out | apply IsS68.alloc | apply IsS68.drewN | apply IsS68.drew | apply IsS68.set_1 | apply IsS68.set_2) | exact HI0.out))) : gb329 ≠ g)); replace HI0 := am_ (IsS68.below y7_ hb); clear hb hbox hg) | ((with_reducible refine gate_dst (N := 7) rfl ?_); refine Kd.R_lit (Kd.int .i64) _ 3 ?hg (N := 7) ?hd (xs := ([1, 1, 2, 2, 2, 3, 3, 4, 5, 5, 6, 7, 7, 8, 9, 10, 10] : List Int)) (inner := [.int .i64 1, .int .i64 1, .int .i64 2, .int .i64 2, .int .i64 2, .int .i64 3, .int .i64 3, .int .i64 4, .int .i64 5, .int .i64 5, .int .i64 6, .int .i64 7, .int .i64 7, .int .i64 8, .int .i64 9, .int .i64 10, .int .i64 10]) (ok := fun _ => True) (okp := fun _ => True) ?hr ?hp (fun _ hk => hk) trivial (Below.refl _ _) (Nat.le_refl _) (by simp) ?_; (case hd => rfl); (case hg => rfl); (case hr => first | (go_simp; done) | (go_simp; rfl)); (case hp => exact (Reps.one (show Kd.M (Kd.int .i64) _ _ _ 1 [.int .i64 1] from rfl) (Reps.one (show Kd.M (Kd.int .i64) _ _ _ 1 [.int .i64 1] from rfl) (Reps.one (show Kd.M (Kd.int .i64) _ _ _ 2 [.int .i64 2] from rfl) (Reps.one (show Kd.M (Kd.int .i64) _ _ _ 2 [.int .i64 2] from rfl) (Reps.one (show Kd.M (Kd.int .i64) _ _ _ 2 [.int .i64 2] from rfl) (Reps.one (show Kd.M (Kd.int .i64) _ _ _ 3 [.int .i64 3] from rfl) (Reps.one (show Kd.M (Kd.int .i64) _ _ _ 3 [.int .i64 3] from rfl) (Reps.one (show Kd.M (Kd.int .i64) _ _ _ 4 [.int .i64 4] from rfl) (Reps.one (show Kd.M (Kd.int .i64) _ _ _ 5 [.int .i64 5] from rfl) (Reps.one (show Kd.M (Kd.int .i64) _ _ _ 5 [.int .i64 5] from rfl) (Reps.one (show Kd.M (Kd.int .i64) _ _ _ 6 [.int .i64 6] from rfl) (Reps.one (show Kd.M (Kd.int .i64) _ _ _ 7 [.int .i64 7] from rfl) (Reps.one (show Kd.M (Kd.int .i64) _ _ _ 7 [.int .i64 7] from rfl) (Reps.one (show Kd.M (Kd.int .i64) _ _ _ 8 [.int .i64 8] from rfl) (Reps.one (show Kd.M (Kd.int .i64) _ _ _ 9 [.int .i64 9] from rfl) (Reps.one (show Kd.M (Kd.int .i64) _ _ _ 10 [.int .i64 10] from rfl) (Reps.one (show Kd.M (Kd.int .i64) _ _ _ 10 [.int .i64 10] from rfl) (Reps.none _ _))))))))))))))))))); intro v331 w6 ho7 hb hg_ hnew_; clear hg_ hnew_; (first | rw [← Ny330.out] at ho7 | (simp only [Int.reduceToNat] at ho7; rw [← Ny330.out] at ho7)); have HO332 := am_ (Kd.R_lower ho7 (keep_size (w := w) (g := g) (row := none) y5_)); replace BK329 := bb_ BK329 hb; replace HK := am_ (KeepBut.trans y5_ (KeepBut.of_below hb g none) (.inl rfl)); replace HB := am_ (below_step (by repeat (first | (with_reducible first | exact HB.out | apply below_alloc | apply pw_below_drewN | apply below_drew1 | refine below_set ?_ (IsS68.ge HI0.out) | refine below_set ?_ GE329.out) | exact HB.out)) hb); replace HI0 := am_ (IsS68.below (by repeat (first | (with_reducible first | exact HI0.out | apply IsS68.alloc | apply IsS68.drewN | apply IsS68.drew | apply IsS68.set_1 | apply IsS68.set_2 | refine IsS68.far ?_ NB0_329.out _) | exact HI0.out)) hb); clear hb ho7; obtain ⟨Ao8, co8, eo8⟩ := Kd.R_slice HO332.out; subst eo8) | ((with_reducible refine gl_ 79 rfl ?_); refine goesM_ (some 8) Try.func79 #[.pointer (some ⟨g, 0, none⟩), .slice Ao8 y330.length co8] ?_; (with_reducible refine (spec_l1Cur_among.calls g s0_0 s0_1 s0_2 _ _ y330 t333 t334 t335 w0 _ ?side1 ?side2 ?side3 ?side4 ?side5 A3.out).mono ?_); (case side1 => repeat (first | (with_reducible first | exact HI0.out | apply IsS68.alloc | apply IsS68.drewN | apply IsS68.drew | apply IsS68.set_1 | apply IsS68.set_2 | refine IsS68.far ?_ NB0_329.out _) | exact HI0.out)); (case side2 => repeat (first | (with_reducible first | exact HB.out | apply below_alloc | apply pw_below_drewN | apply below_drew1 | refine below_set ?_ (IsS68.ge HI0.out) | refine below_set ?_ GE329.out) | exact HB.out)); (case side3 => exact cm_ (Kd.R_reads' HO332.out).2.2); (case side4 => exact (Kd.R_reads' HO332.out).2.1); (case side5 => exact far_slice (IsS68.own_ne HI0.out HO332.out (by decide))); rintro e w9 ⟨rfl, hi, hb, hk⟩; refine ⟨_, rfl, ?_⟩; replace BK329 := am_ (KeepBut.blk hk (g' := gb329) (o := .cells #[.int .i64 0, .int .i64 0, .int .i64 0, .int .i64 0, .int .i64 0, .int .i64 0] 51 (0, 0)) (bk_ BK329.out) NB329_0.out (by simp)); replace HO332 := am_ (Kd.R_mono (Kd.R_keep (IsS68.apart (show IsS68 w0 _ g s0_0 s0_1 s0_2 from by repeat (first | (with_reducible first | exact HI0.out | apply IsS68.alloc | apply IsS68.drewN | apply IsS68.drew | apply IsS68.set_1 | apply IsS68.set_2 | refine IsS68.far ?_ NB0_329.out _) | exact HI0.out)) (rq_ HO332.out) (by decide)) hk (fun _ h => h.2)) (fun _ h => h.1)); replace HK := am_ (KeepBut.trans y5_ hk (.inl rfl)); replace HB := am_ (hb); replace HI0 := am_ (hi); (try clear hb); (try clear hk); (try clear hi)) | ((with_reducible refine gate_dst (N := 5) rfl ?_); refine boxq_ (N := 5) (cs := #[.int .i64 0, .int .i64 0, .int .i64 0, .int .i64 0, .int .i64 0, .int .i64 0]) (t := 51) ?_; intro gb336 hg w10 hbox hb; replace HO332 := am_ (Kd.R_below (rq_ HO332.out) hb); replace HB := am_ (below_step (by repeat (first | (with_reducible first | exact HB.out | apply below_alloc | apply pw_below_drewN | apply below_drew1 | refine below_set ?_ (IsS68.ge HI0.out) | refine below_set ?_ GE329.out) | exact HB.out)) hb); have BK336 := am_ (hbox); have GW336 := am_ ((by rw [hg]; exact (keep_size (w := w) (g := g) (row := none) y5_) : w.heap.size ≤ gb336)); have GE336 := am_ ((Nat.le_trans HW0.out (by rw [hg]; exact (keep_size (w := w) (g := g) (row := none) y5_) : w.heap.size ≤ gb336) : w0.heap.size ≤ gb336)); replace HK := am_ (KeepBut.trans y5_ (KeepBut.of_below hb g none) (.inl rfl)); have NB329_336 := nl_ BK329 hg; have NB336_329 := nr_ BK329 hg; replace BK329 := bb_ BK329 hb; have NB0_336 := am_ ((by rw [hg]; exact Nat.ne_of_lt (IsS68.lt (show IsS68 w0 _ g s0_0 t334 t335 from by repeat (first | (with_reducible first | exact HI0.out | apply IsS68.alloc | apply IsS68.drewN | apply IsS68.drew | apply IsS68.set_1 | apply IsS68.set_2 | refine IsS68.far ?_ NB0_329.out _) | exact HI0.out))) : g ≠ gb336)); have NB336_0 := am_ ((by rw [hg]; exact Nat.ne_of_gt (IsS68.lt (show IsS68 w0 _ g s0_0 t334 t335 from by repeat (first | (with_reducible first | exact HI0.out | apply IsS68.alloc | apply IsS68.drewN | apply IsS68.drew | apply IsS68.set_1 | apply IsS68.set_2 | refine IsS68.far ?_ NB0_329.out _) | exact HI0.out))) : gb336 ≠ g)); replace HI0 := am_ (IsS68.below (by repeat (first | (with_reducible first | exact HI0.out | apply IsS68.alloc | apply IsS68.drewN | apply IsS68.drew | apply IsS68.set_1 | apply IsS68.set_2 | refine IsS68.far ?_ NB0_329.out _) | exact HI0.out)) hb); clear hb hbox hg; have hnb11 := NB336_329.out; have hnc11 := NB329_336.out; have hnb12 := NB336_0.out; have hnc12 := NB0_336.out; have hcz13_0 := cq_ BK336.out 0 (.int .i64 0); have hcz13_1 := cq_ BK336.out 1 (.int .i64 0); have hcz13_2 := cq_ BK336.out 2 (.int .i64 0); have hcz13_3 := cq_ BK336.out 3 (.int .i64 0); have hcz13_4 := cq_ BK336.out 4 (.int .i64 0); have hcz13_5 := cq_ BK336.out 5 (.int .i64 0); have hfz13_0 := blk_frozen BK336.out 0; have hfz13_1 := blk_frozen BK336.out 1; have hfz13_2 := blk_frozen BK336.out 2; have hfz13_3 := blk_frozen BK336.out 3; have hfz13_4 := blk_frozen BK336.out 4; have hfz13_5 := blk_frozen BK336.out 5))
 (try simp only [Act.put, List.setIfInBounds_toArray, List.set_cons_zero, List.set_cons_succ])
 go_cut [16] (fun v16 wc => ∃ (kq : Nat) (x16_3 : Bool), v16 = .bool x16_3 ∧ Aside0 (spec_l1Cur_step.j0 kq a1 x16_3 s0_0 t334 t335 t333 0 0 0 0 0 = some (r1, r2, r3, r4, r5, r6, r7, r8)) ∧ Aside0 (kq ≤ k) ∧ Aside0 (wc.heap[gb329]? = some (.cells #[.int .i64 0, .int .i64 0, .int .i64 0, .int .i64 0, .int .i64 0, .int .i64 0] 51 (0, 0))) ∧ Aside0 (wc.heap[gb336]? = some (.cells #[.int .i64 t333, .int .i64 0, .int .i64 0, .int .i64 0, .int .i64 0, .int .i64 0] 51 (0, 0))) ∧ Aside0 (IsS68 w0 wc g s0_0 t334 t335) ∧ Aside0 (KeepBut w wc g none) ∧ Aside0 (Below w0.heap.size w0 wc))
 case first =>
  have H := HC4.out
  clear HC4
  by_cases c14 : t333 ≥ 8
  ·rw [if_pos c14] at H
   have c14b0 : decide (8 ≤ t333) = true := decide_eq_true c14
   clear c14
   (first | rw [c14b0] | (simp only [i64_w, i32_w]; rw [c14b0]) | skip)
   have H' := am_ H
   clear H
   have hnb15 := NB336_329.out
   have hnc15 := NB329_336.out
   have hnb16 := NB336_0.out
   have hnc16 := NB0_336.out
   have hcz17_0 := cq_ BK336.out 0 (.int .i64 0)
   have hcz17_1 := cq_ BK336.out 1 (.int .i64 0)
   have hcz17_2 := cq_ BK336.out 2 (.int .i64 0)
   have hcz17_3 := cq_ BK336.out 3 (.int .i64 0)
   have hcz17_4 := cq_ BK336.out 4 (.int .i64 0)
   have hcz17_5 := cq_ BK336.out 5 (.int .i64 0)
   have hfz17_0 := blk_frozen BK336.out 0
   have hfz17_1 := blk_frozen BK336.out 1
   have hfz17_2 := blk_frozen BK336.out 2
   have hfz17_3 := blk_frozen BK336.out 3
   have hfz17_4 := blk_frozen BK336.out 4
   have hfz17_5 := blk_frozen BK336.out 5
   go_wp2
   go_meet
   case rel => exact ⟨_, (decide (a1 < 2)), y14_, H', ⟨by first | omega | exact Nat.le_refl _⟩, ⟨by (with_reducible repeat (first | refine blk_drewN ?_ _ | refine blk_drew ?_ | refine blk_alloc ?_ _)); refine blk_far ?_ NB329_336.out _; (with_reducible repeat (first | refine blk_drewN ?_ _ | refine blk_drew ?_ | refine blk_alloc ?_ _)); refine blk_far ?_ NB329_336.out _; (with_reducible repeat (first | refine blk_drewN ?_ _ | refine blk_drew ?_ | refine blk_alloc ?_ _)); refine blk_far ?_ NB329_336.out _; (with_reducible repeat (first | refine blk_drewN ?_ _ | refine blk_drew ?_ | refine blk_alloc ?_ _)); refine blk_far ?_ NB329_336.out _; (with_reducible repeat (first | refine blk_drewN ?_ _ | refine blk_drew ?_ | refine blk_alloc ?_ _)); refine blk_far ?_ NB329_336.out _; (with_reducible repeat (first | refine blk_drewN ?_ _ | refine blk_drew ?_ | refine blk_alloc ?_ _)); refine blk_far ?_ NB329_336.out _; (with_reducible repeat (first | refine blk_drewN ?_ _ | refine blk_drew ?_ | refine blk_alloc ?_ _)); exact BK329.out⟩, ⟨by (with_reducible repeat (first | refine blk_drewN ?_ _ | refine blk_drew ?_ | refine blk_alloc ?_ _)); refine blk_put (cs := #[.int .i64 t333, .int .i64 0, .int .i64 0, .int .i64 0, .int .i64 0, .int .i64 0]) ?_ 5 _ rfl; (with_reducible repeat (first | refine blk_drewN ?_ _ | refine blk_drew ?_ | refine blk_alloc ?_ _)); refine blk_put (cs := #[.int .i64 t333, .int .i64 0, .int .i64 0, .int .i64 0, .int .i64 0, .int .i64 0]) ?_ 4 _ rfl; (with_reducible repeat (first | refine blk_drewN ?_ _ | refine blk_drew ?_ | refine blk_alloc ?_ _)); refine blk_put (cs := #[.int .i64 t333, .int .i64 0, .int .i64 0, .int .i64 0, .int .i64 0, .int .i64 0]) ?_ 3 _ rfl; (with_reducible repeat (first | refine blk_drewN ?_ _ | refine blk_drew ?_ | refine blk_alloc ?_ _)); refine blk_put (cs := #[.int .i64 t333, .int .i64 0, .int .i64 0, .int .i64 0, .int .i64 0, .int .i64 0]) ?_ 2 _ rfl; (with_reducible repeat (first | refine blk_drewN ?_ _ | refine blk_drew ?_ | refine blk_alloc ?_ _)); refine blk_put (cs := #[.int .i64 t333, .int .i64 0, .int .i64 0, .int .i64 0, .int .i64 0, .int .i64 0]) ?_ 1 _ rfl; (with_reducible repeat (first | refine blk_drewN ?_ _ | refine blk_drew ?_ | refine blk_alloc ?_ _)); refine blk_put (cs := #[.int .i64 0, .int .i64 0, .int .i64 0, .int .i64 0, .int .i64 0, .int .i64 0]) ?_ 0 _ rfl; (with_reducible repeat (first | refine blk_drewN ?_ _ | refine blk_drew ?_ | refine blk_alloc ?_ _)); exact BK336.out⟩, ⟨by repeat (first | (with_reducible first | exact HI0.out | apply IsS68.alloc | apply IsS68.drewN | apply IsS68.drew | apply IsS68.set_1 | apply IsS68.set_2 | refine IsS68.far ?_ NB0_329.out _ | refine IsS68.far ?_ NB0_336.out _) | exact HI0.out)⟩, ⟨by repeat (first | (with_reducible first | exact HK.out | apply KeepBut.set_ | apply keep_drewN | apply keep_drew | apply keep_alloc | refine keep_far ?_ GW329.out _ | refine keep_far ?_ GW336.out _) | exact HK.out)⟩, ⟨by repeat (first | (with_reducible first | exact HB.out | apply below_alloc | apply pw_below_drewN | apply below_drew1 | refine below_set ?_ (IsS68.ge HI0.out) | refine below_set ?_ GE329.out | refine below_set ?_ GE336.out) | exact HB.out)⟩⟩
  ·rw [if_neg c14] at H
   have c14b0 : decide (8 ≤ t333) = false := decide_eq_false c14
   clear c14
   (first | rw [c14b0] | (simp only [i64_w, i32_w]; rw [c14b0]) | skip)
   have H' := am_ H
   clear H
   have hnb18 := NB336_329.out
   have hnc18 := NB329_336.out
   have hnb19 := NB336_0.out
   have hnc19 := NB0_336.out
   have hcz20_0 := cq_ BK336.out 0 (.int .i64 0)
   have hcz20_1 := cq_ BK336.out 1 (.int .i64 0)
   have hcz20_2 := cq_ BK336.out 2 (.int .i64 0)
   have hcz20_3 := cq_ BK336.out 3 (.int .i64 0)
   have hcz20_4 := cq_ BK336.out 4 (.int .i64 0)
   have hcz20_5 := cq_ BK336.out 5 (.int .i64 0)
   have hfz20_0 := blk_frozen BK336.out 0
   have hfz20_1 := blk_frozen BK336.out 1
   have hfz20_2 := blk_frozen BK336.out 2
   have hfz20_3 := blk_frozen BK336.out 3
   have hfz20_4 := blk_frozen BK336.out 4
   have hfz20_5 := blk_frozen BK336.out 5
   go_wp2
   go_meet
   case rel => exact ⟨_, (false), y14_, H', ⟨by first | omega | exact Nat.le_refl _⟩, ⟨by (with_reducible repeat (first | refine blk_drewN ?_ _ | refine blk_drew ?_ | refine blk_alloc ?_ _)); refine blk_far ?_ NB329_336.out _; (with_reducible repeat (first | refine blk_drewN ?_ _ | refine blk_drew ?_ | refine blk_alloc ?_ _)); refine blk_far ?_ NB329_336.out _; (with_reducible repeat (first | refine blk_drewN ?_ _ | refine blk_drew ?_ | refine blk_alloc ?_ _)); refine blk_far ?_ NB329_336.out _; (with_reducible repeat (first | refine blk_drewN ?_ _ | refine blk_drew ?_ | refine blk_alloc ?_ _)); refine blk_far ?_ NB329_336.out _; (with_reducible repeat (first | refine blk_drewN ?_ _ | refine blk_drew ?_ | refine blk_alloc ?_ _)); refine blk_far ?_ NB329_336.out _; (with_reducible repeat (first | refine blk_drewN ?_ _ | refine blk_drew ?_ | refine blk_alloc ?_ _)); refine blk_far ?_ NB329_336.out _; (with_reducible repeat (first | refine blk_drewN ?_ _ | refine blk_drew ?_ | refine blk_alloc ?_ _)); exact BK329.out⟩, ⟨by (with_reducible repeat (first | refine blk_drewN ?_ _ | refine blk_drew ?_ | refine blk_alloc ?_ _)); refine blk_put (cs := #[.int .i64 t333, .int .i64 0, .int .i64 0, .int .i64 0, .int .i64 0, .int .i64 0]) ?_ 5 _ rfl; (with_reducible repeat (first | refine blk_drewN ?_ _ | refine blk_drew ?_ | refine blk_alloc ?_ _)); refine blk_put (cs := #[.int .i64 t333, .int .i64 0, .int .i64 0, .int .i64 0, .int .i64 0, .int .i64 0]) ?_ 4 _ rfl; (with_reducible repeat (first | refine blk_drewN ?_ _ | refine blk_drew ?_ | refine blk_alloc ?_ _)); refine blk_put (cs := #[.int .i64 t333, .int .i64 0, .int .i64 0, .int .i64 0, .int .i64 0, .int .i64 0]) ?_ 3 _ rfl; (with_reducible repeat (first | refine blk_drewN ?_ _ | refine blk_drew ?_ | refine blk_alloc ?_ _)); refine blk_put (cs := #[.int .i64 t333, .int .i64 0, .int .i64 0, .int .i64 0, .int .i64 0, .int .i64 0]) ?_ 2 _ rfl; (with_reducible repeat (first | refine blk_drewN ?_ _ | refine blk_drew ?_ | refine blk_alloc ?_ _)); refine blk_put (cs := #[.int .i64 t333, .int .i64 0, .int .i64 0, .int .i64 0, .int .i64 0, .int .i64 0]) ?_ 1 _ rfl; (with_reducible repeat (first | refine blk_drewN ?_ _ | refine blk_drew ?_ | refine blk_alloc ?_ _)); refine blk_put (cs := #[.int .i64 0, .int .i64 0, .int .i64 0, .int .i64 0, .int .i64 0, .int .i64 0]) ?_ 0 _ rfl; (with_reducible repeat (first | refine blk_drewN ?_ _ | refine blk_drew ?_ | refine blk_alloc ?_ _)); exact BK336.out⟩, ⟨by repeat (first | (with_reducible first | exact HI0.out | apply IsS68.alloc | apply IsS68.drewN | apply IsS68.drew | apply IsS68.set_1 | apply IsS68.set_2 | refine IsS68.far ?_ NB0_329.out _ | refine IsS68.far ?_ NB0_336.out _) | exact HI0.out)⟩, ⟨by repeat (first | (with_reducible first | exact HK.out | apply KeepBut.set_ | apply keep_drewN | apply keep_drew | apply keep_alloc | refine keep_far ?_ GW329.out _ | refine keep_far ?_ GW336.out _) | exact HK.out)⟩, ⟨by repeat (first | (with_reducible first | exact HB.out | apply below_alloc | apply pw_below_drewN | apply below_drew1 | refine below_set ?_ (IsS68.ge HI0.out) | refine below_set ?_ GE329.out | refine below_set ?_ GE336.out) | exact HB.out)⟩⟩
 case rest =>
  clear HC4
  try clear c1
  try clear p2
  try clear c7
  try clear c11
  try clear c12
  try clear c14
  try clear c14b0
  try clear c15
  try clear c16
  try clear c18
  try clear c19
  try clear hcz13_0
  try clear hcz13_1
  try clear hcz13_2
  try clear hcz13_3
  try clear hcz13_4
  try clear hcz13_5
  try clear hcz17_0
  try clear hcz17_1
  try clear hcz17_2
  try clear hcz17_3
  try clear hcz17_4
  try clear hcz17_5
  try clear hcz20_0
  try clear hcz20_1
  try clear hcz20_2
  try clear hcz20_3
  try clear hcz20_4
  try clear hcz20_5
  try clear hfz13_0
  try clear hfz13_1
  try clear hfz13_2
  try clear hfz13_3
  try clear hfz13_4
  try clear hfz13_5
  try clear hfz17_0
  try clear hfz17_1
  try clear hfz17_2
  try clear hfz17_3
  try clear hfz17_4
  try clear hfz17_5
  try clear hfz20_0
  try clear hfz20_1
  try clear hfz20_2
  try clear hfz20_3
  try clear hfz20_4
  try clear hfz20_5
  obtain ⟨kq, x16_3, rfl, HA, HJ3, BK329, BK336, HI0, HK, HB⟩ := hcut
  cases kq with
  | zero => exact absurd HA.out (by simp [spec_l1Cur_step.j0])
  | succ kj3 =>
   have H := HA.out
   clear HA
   simp only [spec_l1Cur_step.j0] at H
   have HC21 := am_ H
   clear H
   go_upto_if 16 with (fail)
   go_cut [] (fun wc => ∃ (kq : Nat) (x337000_20 : Int), Aside0 (spec_l1Cur_step.j1 kq a1 s0_0 t334 t335 x337000_20 0 0 0 0 0 = some (r1, r2, r3, r4, r5, r6, r7, r8)) ∧ Aside0 (kq ≤ kj3) ∧ Aside0 (wc.heap[gb329]? = some (.cells #[.int .i64 0, .int .i64 0, .int .i64 0, .int .i64 0, .int .i64 0, .int .i64 0] 51 (0, 0))) ∧ Aside0 (wc.heap[gb336]? = some (.cells #[.int .i64 x337000_20, .int .i64 0, .int .i64 0, .int .i64 0, .int .i64 0, .int .i64 0] 51 (0, 0))) ∧ Aside0 (IsS68 w0 wc g s0_0 t334 t335) ∧ Aside0 (KeepBut w wc g none) ∧ Aside0 (Below w0.heap.size w0 wc))
   case first =>
    have H := HC21.out
    clear HC21
    by_cases c22 : x16_3 = true
    ·subst c22
     have H1 : (spec_l1Cur_step.j1 kj3 a1 s0_0 t334 t335 3 0 0 0 0 0) = some (r1, r2, r3, r4, r5, r6, r7, r8) := by rw [if_pos rfl] at H; exact H
     clear H
     have H := H1
     clear H1
     have H' := am_ H
     clear H
     have hnb23 := NB336_329.out
     have hnc23 := NB329_336.out
     have hnb24 := NB336_0.out
     have hnc24 := NB0_336.out
     have hcz25_0 := cq_ BK336.out 0 (.int .i64 t333)
     have hcz25_1 := cq_ BK336.out 1 (.int .i64 0)
     have hcz25_2 := cq_ BK336.out 2 (.int .i64 0)
     have hcz25_3 := cq_ BK336.out 3 (.int .i64 0)
     have hcz25_4 := cq_ BK336.out 4 (.int .i64 0)
     have hcz25_5 := cq_ BK336.out 5 (.int .i64 0)
     have hfz25_0 := blk_frozen BK336.out 0
     have hfz25_1 := blk_frozen BK336.out 1
     have hfz25_2 := blk_frozen BK336.out 2
     have hfz25_3 := blk_frozen BK336.out 3
     have hfz25_4 := blk_frozen BK336.out 4
     have hfz25_5 := blk_frozen BK336.out 5
     go_wp2
     go_meet
     case rel => exact ⟨_, (3), H', ⟨by have := HJ3.out; first | omega | exact Nat.le_refl _⟩, ⟨by (with_reducible repeat (first | refine blk_drewN ?_ _ | refine blk_drew ?_ | refine blk_alloc ?_ _)); refine blk_far ?_ NB329_336.out _; (with_reducible repeat (first | refine blk_drewN ?_ _ | refine blk_drew ?_ | refine blk_alloc ?_ _)); exact BK329.out⟩, ⟨by (with_reducible repeat (first | refine blk_drewN ?_ _ | refine blk_drew ?_ | refine blk_alloc ?_ _)); refine blk_put (cs := #[.int .i64 t333, .int .i64 0, .int .i64 0, .int .i64 0, .int .i64 0, .int .i64 0]) ?_ 0 _ rfl; (with_reducible repeat (first | refine blk_drewN ?_ _ | refine blk_drew ?_ | refine blk_alloc ?_ _)); exact BK336.out⟩, ⟨by repeat (first | (with_reducible first | exact HI0.out | apply IsS68.alloc | apply IsS68.drewN | apply IsS68.drew | apply IsS68.set_1 | apply IsS68.set_2 | refine IsS68.far ?_ NB0_329.out _ | refine IsS68.far ?_ NB0_336.out _) | exact HI0.out)⟩, ⟨by repeat (first | (with_reducible first | exact HK.out | apply KeepBut.set_ | apply keep_drewN | apply keep_drew | apply keep_alloc | refine keep_far ?_ GW329.out _ | refine keep_far ?_ GW336.out _) | exact HK.out)⟩, ⟨by repeat (first | (with_reducible first | exact HB.out | apply below_alloc | apply pw_below_drewN | apply below_drew1 | refine below_set ?_ (IsS68.ge HI0.out) | refine below_set ?_ GE329.out | refine below_set ?_ GE336.out) | exact HB.out)⟩⟩
    ·replace c22 := Bool.eq_false_iff.mpr c22
     subst c22
     have H1 : (spec_l1Cur_step.j1 kj3 a1 s0_0 t334 t335 t333 0 0 0 0 0) = some (r1, r2, r3, r4, r5, r6, r7, r8) := by rw [if_neg (show ¬ (false = true) by decide)] at H; exact H
     clear H
     have H := H1
     clear H1
     have H' := am_ H
     clear H
     go_wp2
     go_meet
     case rel => exact ⟨_, (t333), H', ⟨by have := HJ3.out; first | omega | exact Nat.le_refl _⟩, ⟨bk_ BK329.out⟩, ⟨bk_ BK336.out⟩, ⟨by repeat (first | (with_reducible first | exact HI0.out | apply IsS68.alloc | apply IsS68.drewN | apply IsS68.drew | apply IsS68.set_1 | apply IsS68.set_2 | refine IsS68.far ?_ NB0_329.out _ | refine IsS68.far ?_ NB0_336.out _) | exact HI0.out)⟩, ⟨by repeat (first | (with_reducible first | exact HK.out | apply KeepBut.set_ | apply keep_drewN | apply keep_drew | apply keep_alloc | refine keep_far ?_ GW329.out _ | refine keep_far ?_ GW336.out _) | exact HK.out)⟩, ⟨by repeat (first | (with_reducible first | exact HB.out | apply below_alloc | apply pw_below_drewN | apply below_drew1 | refine below_set ?_ (IsS68.ge HI0.out) | refine below_set ?_ GE329.out | refine below_set ?_ GE336.out) | exact HB.out)⟩⟩
   case rest =>
    clear HC21
    try clear c1
    try clear c2
    try clear p2
    try clear c7
    try clear c11
    try clear c12
    try clear c14
    try clear c14b0
    try clear c15
    try clear c16
    try clear c18
    try clear c19
    try clear c22
    try clear c23
    try clear c24
    try clear hcz13_0
    try clear hcz13_1
    try clear hcz13_2
    try clear hcz13_3
    try clear hcz13_4
    try clear hcz13_5
    try clear hcz17_0
    try clear hcz17_1
    try clear hcz17_2
    try clear hcz17_3
    try clear hcz17_4
    try clear hcz17_5
    try clear hcz20_0
    try clear hcz20_1
    try clear hcz20_2
    try clear hcz20_3
    try clear hcz20_4
    try clear hcz20_5
    try clear hcz25_0
    try clear hcz25_1
    try clear hcz25_2
    try clear hcz25_3
    try clear hcz25_4
    try clear hcz25_5
    try clear hfz13_0
    try clear hfz13_1
    try clear hfz13_2
    try clear hfz13_3
    try clear hfz13_4
    try clear hfz13_5
    try clear hfz17_0
    try clear hfz17_1
    try clear hfz17_2
    try clear hfz17_3
    try clear hfz17_4
    try clear hfz17_5
    try clear hfz20_0
    try clear hfz20_1
    try clear hfz20_2
    try clear hfz20_3
    try clear hfz20_4
    try clear hfz20_5
    try clear hfz25_0
    try clear hfz25_1
    try clear hfz25_2
    try clear hfz25_3
    try clear hfz25_4
    try clear hfz25_5
    try clear p2
    obtain ⟨kq, x337000_20, HA, HJ20, BK329, BK336, HI0, HK, HB⟩ := hcut
    cases kq with
    | zero => exact absurd HA.out (by simp [spec_l1Cur_step.j1])
    | succ kj20 =>
     have H := HA.out
     clear HA
     simp only [spec_l1Cur_step.j1] at H
     have HC26 := am_ H
     clear H
     have hnb27 := NB336_329.out
     have hnc27 := NB329_336.out
     have hnb28 := NB336_0.out
     have hnc28 := NB0_336.out
     have hcz29_0 := cq_ BK336.out 0 (.int .i64 x337000_20)
     have hcz29_1 := cq_ BK336.out 1 (.int .i64 0)
     have hcz29_2 := cq_ BK336.out 2 (.int .i64 0)
     have hcz29_3 := cq_ BK336.out 3 (.int .i64 0)
     have hcz29_4 := cq_ BK336.out 4 (.int .i64 0)
     have hcz29_5 := cq_ BK336.out 5 (.int .i64 0)
     have hfz29_0 := blk_frozen BK336.out 0
     have hfz29_1 := blk_frozen BK336.out 1
     have hfz29_2 := blk_frozen BK336.out 2
     have hfz29_3 := blk_frozen BK336.out 3
     have hfz29_4 := blk_frozen BK336.out 4
     have hfz29_5 := blk_frozen BK336.out 5
     go_upto_block 0 with (fail)
     go_cut [] (fun wc => ∃ (kq : Nat) (x1001_25 : Int) (x1002_25 : Int) (x337003_25 : Int), Aside0 (spec_l1Cur_step.j2 kq a1 s0_0 x1001_25 x1002_25 x337000_20 0 0 x337003_25 0 0 = some (r1, r2, r3, r4, r5, r6, r7, r8)) ∧ Aside0 (kq ≤ kj20) ∧ Aside0 (wc.heap[gb329]? = some (.cells #[.int .i64 0, .int .i64 0, .int .i64 0, .int .i64 0, .int .i64 0, .int .i64 0] 51 (0, 0))) ∧ Aside0 (wc.heap[gb336]? = some (.cells #[.int .i64 x337000_20, .int .i64 0, .int .i64 0, .int .i64 x337003_25, .int .i64 0, .int .i64 0] 51 (0, 0))) ∧ Aside0 (IsS68 w0 wc g s0_0 x1001_25 x1002_25) ∧ Aside0 (KeepBut w wc g none) ∧ Aside0 (Below w0.heap.size w0 wc))
     case first =>
      have H := HC26.out
      clear HC26
      by_cases c30 : x337000_20 = 1
      ·rw [if_pos c30] at H
       have c30b0 : (x337000_20 == 1) = true := beq_iff_eq.mpr c30
       have c30b1 : (x337000_20 != 1) = false := bne_eq_false_iff_eq.mpr c30
       clear c30
       (first | rw [c30b0] | (simp only [i64_w, i32_w]; rw [c30b0]) | skip)
       replace H := Option.bind_eq_some_iff.mp H
       obtain ⟨⟨t337, t338, t339⟩, A310, H⟩ := H
       replace H : (spec_l1Cur_step.j2 kj20 a1 s0_0 t338 t339 x337000_20 0 0 t337 0 0) = some (r1, r2, r3, r4, r5, r6, r7, r8) := H
       have A31 := am_ A310
       clear A310
       have H' := am_ H
       clear H
       go_wp2_with (first | ((with_reducible refine gl_ 76 rfl ?_); refine goesM_ (some 26) Try.func76 #[.pointer (some ⟨g, 0, none⟩), .int .i64 3] ?_; (with_reducible refine (spec_l1Cur_pick.calls g s0_0 t334 t335 3 t337 t338 t339 w0 _ ?side1 ?side2 A31.out).mono ?_); (case side1 => repeat (first | (with_reducible first | exact HI0.out | apply IsS68.alloc | apply IsS68.drewN | apply IsS68.drew | apply IsS68.set_1 | apply IsS68.set_2 | refine IsS68.far ?_ NB0_329.out _ | refine IsS68.far ?_ NB0_336.out _) | exact HI0.out)); (case side2 => repeat (first | (with_reducible first | exact HB.out | apply below_alloc | apply pw_below_drewN | apply below_drew1 | refine below_set ?_ (IsS68.ge HI0.out) | refine below_set ?_ GE329.out | refine below_set ?_ GE336.out) | exact HB.out)); rintro e w32 ⟨rfl, hi, hb, hk⟩; refine ⟨_, rfl, ?_⟩; replace BK329 := am_ (KeepBut.blk hk (g' := gb329) (o := .cells #[.int .i64 0, .int .i64 0, .int .i64 0, .int .i64 0, .int .i64 0, .int .i64 0] 51 (0, 0)) (bk_ BK329.out) NB329_0.out (by simp)); replace BK336 := am_ (KeepBut.blk hk (g' := gb336) (o := .cells #[.int .i64 x337000_20, .int .i64 0, .int .i64 0, .int .i64 0, .int .i64 0, .int .i64 0] 51 (0, 0)) (bk_ BK336.out) NB336_0.out (by simp)); replace HK := am_ (KeepBut.trans y3_ hk (.inl rfl)); replace HB := am_ (hb); replace HI0 := am_ (hi); (try clear hb); (try clear hk); (try clear hi); have hnb33 := NB336_329.out; have hnc33 := NB329_336.out; have hnb34 := NB336_0.out; have hnc34 := NB0_336.out; have hcz35_0 := cq_ BK336.out 0 (.int .i64 x337000_20); have hcz35_1 := cq_ BK336.out 1 (.int .i64 0); have hcz35_2 := cq_ BK336.out 2 (.int .i64 0); have hcz35_3 := cq_ BK336.out 3 (.int .i64 0); have hcz35_4 := cq_ BK336.out 4 (.int .i64 0); have hcz35_5 := cq_ BK336.out 5 (.int .i64 0); have hfz35_0 := blk_frozen BK336.out 0; have hfz35_1 := blk_frozen BK336.out 1; have hfz35_2 := blk_frozen BK336.out 2; have hfz35_3 := blk_frozen BK336.out 3; have hfz35_4 := blk_frozen BK336.out 4; have hfz35_5 := blk_frozen BK336.out 5))
       go_meet
       case rel => exact ⟨_, (t338), (t339), (t337), H', ⟨by have := HJ3.out; have := HJ20.out; first | omega | exact Nat.le_refl _⟩, ⟨by (with_reducible repeat (first | refine blk_drewN ?_ _ | refine blk_drew ?_ | refine blk_alloc ?_ _)); refine blk_far ?_ NB329_336.out _; (with_reducible repeat (first | refine blk_drewN ?_ _ | refine blk_drew ?_ | refine blk_alloc ?_ _)); exact BK329.out⟩, ⟨by (with_reducible repeat (first | refine blk_drewN ?_ _ | refine blk_drew ?_ | refine blk_alloc ?_ _)); refine blk_put (cs := #[.int .i64 x337000_20, .int .i64 0, .int .i64 0, .int .i64 0, .int .i64 0, .int .i64 0]) ?_ 3 _ rfl; (with_reducible repeat (first | refine blk_drewN ?_ _ | refine blk_drew ?_ | refine blk_alloc ?_ _)); exact BK336.out⟩, ⟨by repeat (first | (with_reducible first | exact HI0.out | apply IsS68.alloc | apply IsS68.drewN | apply IsS68.drew | apply IsS68.set_1 | apply IsS68.set_2 | refine IsS68.far ?_ NB0_329.out _ | refine IsS68.far ?_ NB0_336.out _) | exact HI0.out)⟩, ⟨by repeat (first | (with_reducible first | exact HK.out | apply KeepBut.set_ | apply keep_drewN | apply keep_drew | apply keep_alloc | refine keep_far ?_ GW329.out _ | refine keep_far ?_ GW336.out _) | exact HK.out)⟩, ⟨by repeat (first | (with_reducible first | exact HB.out | apply below_alloc | apply pw_below_drewN | apply below_drew1 | refine below_set ?_ (IsS68.ge HI0.out) | refine below_set ?_ GE329.out | refine below_set ?_ GE336.out) | exact HB.out)⟩⟩
      ·rw [if_neg c30] at H
       have c30b0 : (x337000_20 == 1) = false := beq_eq_false_iff_ne.mpr c30
       have c30b1 : (x337000_20 != 1) = true := bne_iff_ne.mpr c30
       (first | rw [c30b0] | (simp only [i64_w, i32_w]; rw [c30b0]) | skip)
       by_cases c36 : x337000_20 = 5
       ·rw [if_pos c36] at H
        have c36b0 : (x337000_20 == 5) = true := beq_iff_eq.mpr c36
        have c36b1 : (x337000_20 != 5) = false := bne_eq_false_iff_eq.mpr c36
        clear c36
        replace H := Option.bind_eq_some_iff.mp H
        obtain ⟨⟨t340, t341, t342⟩, A370, H⟩ := H
        replace H : (spec_l1Cur_step.j2 kj20 a1 s0_0 t341 t342 x337000_20 0 0 t340 0 0) = some (r1, r2, r3, r4, r5, r6, r7, r8) := H
        have A37 := am_ A370
        clear A370
        have H' := am_ H
        clear H
        go_wp2_with (first | ((with_reducible refine gl_ 76 rfl ?_); refine goesM_ (some 26) Try.func76 #[.pointer (some ⟨g, 0, none⟩), .int .i64 3] ?_; (with_reducible refine (spec_l1Cur_pick.calls g s0_0 t334 t335 3 t340 t341 t342 w0 _ ?side1 ?side2 A37.out).mono ?_); (case side1 => repeat (first | (with_reducible first | exact HI0.out | apply IsS68.alloc | apply IsS68.drewN | apply IsS68.drew | apply IsS68.set_1 | apply IsS68.set_2 | refine IsS68.far ?_ NB0_329.out _ | refine IsS68.far ?_ NB0_336.out _) | exact HI0.out)); (case side2 => repeat (first | (with_reducible first | exact HB.out | apply below_alloc | apply pw_below_drewN | apply below_drew1 | refine below_set ?_ (IsS68.ge HI0.out) | refine below_set ?_ GE329.out | refine below_set ?_ GE336.out) | exact HB.out)); rintro e w38 ⟨rfl, hi, hb, hk⟩; refine ⟨_, rfl, ?_⟩; replace BK329 := am_ (KeepBut.blk hk (g' := gb329) (o := .cells #[.int .i64 0, .int .i64 0, .int .i64 0, .int .i64 0, .int .i64 0, .int .i64 0] 51 (0, 0)) (bk_ BK329.out) NB329_0.out (by simp)); replace BK336 := am_ (KeepBut.blk hk (g' := gb336) (o := .cells #[.int .i64 x337000_20, .int .i64 0, .int .i64 0, .int .i64 0, .int .i64 0, .int .i64 0] 51 (0, 0)) (bk_ BK336.out) NB336_0.out (by simp)); replace HK := am_ (KeepBut.trans y3_ hk (.inl rfl)); replace HB := am_ (hb); replace HI0 := am_ (hi); (try clear hb); (try clear hk); (try clear hi); have hnb39 := NB336_329.out; have hnc39 := NB329_336.out; have hnb40 := NB336_0.out; have hnc40 := NB0_336.out; have hcz41_0 := cq_ BK336.out 0 (.int .i64 x337000_20); have hcz41_1 := cq_ BK336.out 1 (.int .i64 0); have hcz41_2 := cq_ BK336.out 2 (.int .i64 0); have hcz41_3 := cq_ BK336.out 3 (.int .i64 0); have hcz41_4 := cq_ BK336.out 4 (.int .i64 0); have hcz41_5 := cq_ BK336.out 5 (.int .i64 0); have hfz41_0 := blk_frozen BK336.out 0; have hfz41_1 := blk_frozen BK336.out 1; have hfz41_2 := blk_frozen BK336.out 2; have hfz41_3 := blk_frozen BK336.out 3; have hfz41_4 := blk_frozen BK336.out 4; have hfz41_5 := blk_frozen BK336.out 5))
        go_meet
        case rel => exact ⟨_, (t341), (t342), (t340), H', ⟨by have := HJ3.out; have := HJ20.out; first | omega | exact Nat.le_refl _⟩, ⟨by (with_reducible repeat (first | refine blk_drewN ?_ _ | refine blk_drew ?_ | refine blk_alloc ?_ _)); refine blk_far ?_ NB329_336.out _; (with_reducible repeat (first | refine blk_drewN ?_ _ | refine blk_drew ?_ | refine blk_alloc ?_ _)); exact BK329.out⟩, ⟨by (with_reducible repeat (first | refine blk_drewN ?_ _ | refine blk_drew ?_ | refine blk_alloc ?_ _)); refine blk_put (cs := #[.int .i64 x337000_20, .int .i64 0, .int .i64 0, .int .i64 0, .int .i64 0, .int .i64 0]) ?_ 3 _ rfl; (with_reducible repeat (first | refine blk_drewN ?_ _ | refine blk_drew ?_ | refine blk_alloc ?_ _)); exact BK336.out⟩, ⟨by repeat (first | (with_reducible first | exact HI0.out | apply IsS68.alloc | apply IsS68.drewN | apply IsS68.drew | apply IsS68.set_1 | apply IsS68.set_2 | refine IsS68.far ?_ NB0_329.out _ | refine IsS68.far ?_ NB0_336.out _) | exact HI0.out)⟩, ⟨by repeat (first | (with_reducible first | exact HK.out | apply KeepBut.set_ | apply keep_drewN | apply keep_drew | apply keep_alloc | refine keep_far ?_ GW329.out _ | refine keep_far ?_ GW336.out _) | exact HK.out)⟩, ⟨by repeat (first | (with_reducible first | exact HB.out | apply below_alloc | apply pw_below_drewN | apply below_drew1 | refine below_set ?_ (IsS68.ge HI0.out) | refine below_set ?_ GE329.out | refine below_set ?_ GE336.out) | exact HB.out)⟩⟩
       ·rw [if_neg c36] at H
        have c36b0 : (x337000_20 == 5) = false := beq_eq_false_iff_ne.mpr c36
        have c36b1 : (x337000_20 != 5) = true := bne_iff_ne.mpr c36
        by_cases c42 : x337000_20 = 9
        ·rw [if_pos c42] at H
         have c42b0 : (x337000_20 == 9) = true := beq_iff_eq.mpr c42
         have c42b1 : (x337000_20 != 9) = false := bne_eq_false_iff_eq.mpr c42
         clear c42
         replace H := Option.bind_eq_some_iff.mp H
         obtain ⟨⟨t343, t344, t345⟩, A430, H⟩ := H
         replace H : (spec_l1Cur_step.j2 kj20 a1 s0_0 t344 t345 x337000_20 0 0 t343 0 0) = some (r1, r2, r3, r4, r5, r6, r7, r8) := H
         have A43 := am_ A430
         clear A430
         have H' := am_ H
         clear H
         go_wp2_with (first | ((with_reducible refine gl_ 76 rfl ?_); refine goesM_ (some 26) Try.func76 #[.pointer (some ⟨g, 0, none⟩), .int .i64 3] ?_; (with_reducible refine (spec_l1Cur_pick.calls g s0_0 t334 t335 3 t343 t344 t345 w0 _ ?side1 ?side2 A43.out).mono ?_); (case side1 => repeat (first | (with_reducible first | exact HI0.out | apply IsS68.alloc | apply IsS68.drewN | apply IsS68.drew | apply IsS68.set_1 | apply IsS68.set_2 | refine IsS68.far ?_ NB0_329.out _ | refine IsS68.far ?_ NB0_336.out _) | exact HI0.out)); (case side2 => repeat (first | (with_reducible first | exact HB.out | apply below_alloc | apply pw_below_drewN | apply below_drew1 | refine below_set ?_ (IsS68.ge HI0.out) | refine below_set ?_ GE329.out | refine below_set ?_ GE336.out) | exact HB.out)); rintro e w44 ⟨rfl, hi, hb, hk⟩; refine ⟨_, rfl, ?_⟩; replace BK329 := am_ (KeepBut.blk hk (g' := gb329) (o := .cells #[.int .i64 0, .int .i64 0, .int .i64 0, .int .i64 0, .int .i64 0, .int .i64 0] 51 (0, 0)) (bk_ BK329.out) NB329_0.out (by simp)); replace BK336 := am_ (KeepBut.blk hk (g' := gb336) (o := .cells #[.int .i64 x337000_20, .int .i64 0, .int .i64 0, .int .i64 0, .int .i64 0, .int .i64 0] 51 (0, 0)) (bk_ BK336.out) NB336_0.out (by simp)); replace HK := am_ (KeepBut.trans y3_ hk (.inl rfl)); replace HB := am_ (hb); replace HI0 := am_ (hi); (try clear hb); (try clear hk); (try clear hi); have hnb45 := NB336_329.out; have hnc45 := NB329_336.out; have hnb46 := NB336_0.out; have hnc46 := NB0_336.out; have hcz47_0 := cq_ BK336.out 0 (.int .i64 x337000_20); have hcz47_1 := cq_ BK336.out 1 (.int .i64 0); have hcz47_2 := cq_ BK336.out 2 (.int .i64 0); have hcz47_3 := cq_ BK336.out 3 (.int .i64 0); have hcz47_4 := cq_ BK336.out 4 (.int .i64 0); have hcz47_5 := cq_ BK336.out 5 (.int .i64 0); have hfz47_0 := blk_frozen BK336.out 0; have hfz47_1 := blk_frozen BK336.out 1; have hfz47_2 := blk_frozen BK336.out 2; have hfz47_3 := blk_frozen BK336.out 3; have hfz47_4 := blk_frozen BK336.out 4; have hfz47_5 := blk_frozen BK336.out 5))
         go_meet
         case rel => exact ⟨_, (t344), (t345), (t343), H', ⟨by have := HJ3.out; have := HJ20.out; first | omega | exact Nat.le_refl _⟩, ⟨by (with_reducible repeat (first | refine blk_drewN ?_ _ | refine blk_drew ?_ | refine blk_alloc ?_ _)); refine blk_far ?_ NB329_336.out _; (with_reducible repeat (first | refine blk_drewN ?_ _ | refine blk_drew ?_ | refine blk_alloc ?_ _)); exact BK329.out⟩, ⟨by (with_reducible repeat (first | refine blk_drewN ?_ _ | refine blk_drew ?_ | refine blk_alloc ?_ _)); refine blk_put (cs := #[.int .i64 x337000_20, .int .i64 0, .int .i64 0, .int .i64 0, .int .i64 0, .int .i64 0]) ?_ 3 _ rfl; (with_reducible repeat (first | refine blk_drewN ?_ _ | refine blk_drew ?_ | refine blk_alloc ?_ _)); exact BK336.out⟩, ⟨by repeat (first | (with_reducible first | exact HI0.out | apply IsS68.alloc | apply IsS68.drewN | apply IsS68.drew | apply IsS68.set_1 | apply IsS68.set_2 | refine IsS68.far ?_ NB0_329.out _ | refine IsS68.far ?_ NB0_336.out _) | exact HI0.out)⟩, ⟨by repeat (first | (with_reducible first | exact HK.out | apply KeepBut.set_ | apply keep_drewN | apply keep_drew | apply keep_alloc | refine keep_far ?_ GW329.out _ | refine keep_far ?_ GW336.out _) | exact HK.out)⟩, ⟨by repeat (first | (with_reducible first | exact HB.out | apply below_alloc | apply pw_below_drewN | apply below_drew1 | refine below_set ?_ (IsS68.ge HI0.out) | refine below_set ?_ GE329.out | refine below_set ?_ GE336.out) | exact HB.out)⟩⟩
        ·rw [if_neg c42] at H
         have c42b0 : (x337000_20 == 9) = false := beq_eq_false_iff_ne.mpr c42
         have c42b1 : (x337000_20 != 9) = true := bne_iff_ne.mpr c42
         by_cases c48 : x337000_20 = 10
         ·rw [if_pos c48] at H
          have c48b0 : (x337000_20 == 10) = true := beq_iff_eq.mpr c48
          have c48b1 : (x337000_20 != 10) = false := bne_eq_false_iff_eq.mpr c48
          clear c48
          replace H := Option.bind_eq_some_iff.mp H
          obtain ⟨⟨t346, t347, t348⟩, A490, H⟩ := H
          replace H : (spec_l1Cur_step.j2 kj20 a1 s0_0 t347 t348 x337000_20 0 0 t346 0 0) = some (r1, r2, r3, r4, r5, r6, r7, r8) := H
          have A49 := am_ A490
          clear A490
          have H' := am_ H
          clear H
          go_wp2_with (first | ((with_reducible refine gl_ 76 rfl ?_); refine goesM_ (some 26) Try.func76 #[.pointer (some ⟨g, 0, none⟩), .int .i64 3] ?_; (with_reducible refine (spec_l1Cur_pick.calls g s0_0 t334 t335 3 t346 t347 t348 w0 _ ?side1 ?side2 A49.out).mono ?_); (case side1 => repeat (first | (with_reducible first | exact HI0.out | apply IsS68.alloc | apply IsS68.drewN | apply IsS68.drew | apply IsS68.set_1 | apply IsS68.set_2 | refine IsS68.far ?_ NB0_329.out _ | refine IsS68.far ?_ NB0_336.out _) | exact HI0.out)); (case side2 => repeat (first | (with_reducible first | exact HB.out | apply below_alloc | apply pw_below_drewN | apply below_drew1 | refine below_set ?_ (IsS68.ge HI0.out) | refine below_set ?_ GE329.out | refine below_set ?_ GE336.out) | exact HB.out)); rintro e w50 ⟨rfl, hi, hb, hk⟩; refine ⟨_, rfl, ?_⟩; replace BK329 := am_ (KeepBut.blk hk (g' := gb329) (o := .cells #[.int .i64 0, .int .i64 0, .int .i64 0, .int .i64 0, .int .i64 0, .int .i64 0] 51 (0, 0)) (bk_ BK329.out) NB329_0.out (by simp)); replace BK336 := am_ (KeepBut.blk hk (g' := gb336) (o := .cells #[.int .i64 x337000_20, .int .i64 0, .int .i64 0, .int .i64 0, .int .i64 0, .int .i64 0] 51 (0, 0)) (bk_ BK336.out) NB336_0.out (by simp)); replace HK := am_ (KeepBut.trans y3_ hk (.inl rfl)); replace HB := am_ (hb); replace HI0 := am_ (hi); (try clear hb); (try clear hk); (try clear hi); have hnb51 := NB336_329.out; have hnc51 := NB329_336.out; have hnb52 := NB336_0.out; have hnc52 := NB0_336.out; have hcz53_0 := cq_ BK336.out 0 (.int .i64 x337000_20); have hcz53_1 := cq_ BK336.out 1 (.int .i64 0); have hcz53_2 := cq_ BK336.out 2 (.int .i64 0); have hcz53_3 := cq_ BK336.out 3 (.int .i64 0); have hcz53_4 := cq_ BK336.out 4 (.int .i64 0); have hcz53_5 := cq_ BK336.out 5 (.int .i64 0); have hfz53_0 := blk_frozen BK336.out 0; have hfz53_1 := blk_frozen BK336.out 1; have hfz53_2 := blk_frozen BK336.out 2; have hfz53_3 := blk_frozen BK336.out 3; have hfz53_4 := blk_frozen BK336.out 4; have hfz53_5 := blk_frozen BK336.out 5))
          go_meet
          case rel => exact ⟨_, (t347), (t348), (t346), H', ⟨by have := HJ3.out; have := HJ20.out; first | omega | exact Nat.le_refl _⟩, ⟨by (with_reducible repeat (first | refine blk_drewN ?_ _ | refine blk_drew ?_ | refine blk_alloc ?_ _)); refine blk_far ?_ NB329_336.out _; (with_reducible repeat (first | refine blk_drewN ?_ _ | refine blk_drew ?_ | refine blk_alloc ?_ _)); exact BK329.out⟩, ⟨by (with_reducible repeat (first | refine blk_drewN ?_ _ | refine blk_drew ?_ | refine blk_alloc ?_ _)); refine blk_put (cs := #[.int .i64 x337000_20, .int .i64 0, .int .i64 0, .int .i64 0, .int .i64 0, .int .i64 0]) ?_ 3 _ rfl; (with_reducible repeat (first | refine blk_drewN ?_ _ | refine blk_drew ?_ | refine blk_alloc ?_ _)); exact BK336.out⟩, ⟨by repeat (first | (with_reducible first | exact HI0.out | apply IsS68.alloc | apply IsS68.drewN | apply IsS68.drew | apply IsS68.set_1 | apply IsS68.set_2 | refine IsS68.far ?_ NB0_329.out _ | refine IsS68.far ?_ NB0_336.out _) | exact HI0.out)⟩, ⟨by repeat (first | (with_reducible first | exact HK.out | apply KeepBut.set_ | apply keep_drewN | apply keep_drew | apply keep_alloc | refine keep_far ?_ GW329.out _ | refine keep_far ?_ GW336.out _) | exact HK.out)⟩, ⟨by repeat (first | (with_reducible first | exact HB.out | apply below_alloc | apply pw_below_drewN | apply below_drew1 | refine below_set ?_ (IsS68.ge HI0.out) | refine below_set ?_ GE329.out | refine below_set ?_ GE336.out) | exact HB.out)⟩⟩
         ·rw [if_neg c48] at H
          have c48b0 : (x337000_20 == 10) = false := beq_eq_false_iff_ne.mpr c48
          have c48b1 : (x337000_20 != 10) = true := bne_iff_ne.mpr c48
          have H' := am_ H
          clear H
          go_wp2
          go_meet
          case rel => exact ⟨_, (t334), (t335), (0), H', ⟨by have := HJ3.out; have := HJ20.out; first | omega | exact Nat.le_refl _⟩, ⟨bk_ BK329.out⟩, ⟨bk_ BK336.out⟩, ⟨by repeat (first | (with_reducible first | exact HI0.out | apply IsS68.alloc | apply IsS68.drewN | apply IsS68.drew | apply IsS68.set_1 | apply IsS68.set_2 | refine IsS68.far ?_ NB0_329.out _ | refine IsS68.far ?_ NB0_336.out _) | exact HI0.out)⟩, ⟨by repeat (first | (with_reducible first | exact HK.out | apply KeepBut.set_ | apply keep_drewN | apply keep_drew | apply keep_alloc | refine keep_far ?_ GW329.out _ | refine keep_far ?_ GW336.out _) | exact HK.out)⟩, ⟨by repeat (first | (with_reducible first | exact HB.out | apply below_alloc | apply pw_below_drewN | apply below_drew1 | refine below_set ?_ (IsS68.ge HI0.out) | refine below_set ?_ GE329.out | refine below_set ?_ GE336.out) | exact HB.out)⟩⟩
     case rest =>
      clear HC26
      try clear c1
      try clear c2
      try clear p2
      try clear c3
      try clear c4
      try clear c5
      try clear c7
      try clear c11
      try clear c12
      try clear c14
      try clear c14b0
      try clear c15
      try clear c16
      try clear c18
      try clear c19
      try clear c22
      try clear c23
      try clear c24
      try clear c27
      try clear c28
      try clear c30
      try clear c30b0
      try clear c30b1
      try clear c33
      try clear c34
      try clear c36
      try clear c36b0
      try clear c36b1
      try clear c39
      try clear c40
      try clear c42
      try clear c42b0
      try clear c42b1
      try clear c45
      try clear c46
      try clear c48
      try clear c48b0
      try clear c48b1
      try clear c51
      try clear c52
      try clear hcz13_0
      try clear hcz13_1
      try clear hcz13_2
      try clear hcz13_3
      try clear hcz13_4
      try clear hcz13_5
      try clear hcz17_0
      try clear hcz17_1
      try clear hcz17_2
      try clear hcz17_3
      try clear hcz17_4
      try clear hcz17_5
      try clear hcz20_0
      try clear hcz20_1
      try clear hcz20_2
      try clear hcz20_3
      try clear hcz20_4
      try clear hcz20_5
      try clear hcz25_0
      try clear hcz25_1
      try clear hcz25_2
      try clear hcz25_3
      try clear hcz25_4
      try clear hcz25_5
      try clear hcz29_0
      try clear hcz29_1
      try clear hcz29_2
      try clear hcz29_3
      try clear hcz29_4
      try clear hcz29_5
      try clear hcz35_0
      try clear hcz35_1
      try clear hcz35_2
      try clear hcz35_3
      try clear hcz35_4
      try clear hcz35_5
      try clear hcz41_0
      try clear hcz41_1
      try clear hcz41_2
      try clear hcz41_3
      try clear hcz41_4
      try clear hcz41_5
      try clear hcz47_0
      try clear hcz47_1
      try clear hcz47_2
      try clear hcz47_3
      try clear hcz47_4
      try clear hcz47_5
      try clear hcz53_0
      try clear hcz53_1
      try clear hcz53_2
      try clear hcz53_3
      try clear hcz53_4
      try clear hcz53_5
      try clear hfz13_0
      try clear hfz13_1
      try clear hfz13_2
      try clear hfz13_3
      try clear hfz13_4
      try clear hfz13_5
      try clear hfz17_0
      try clear hfz17_1
      try clear hfz17_2
      try clear hfz17_3
      try clear hfz17_4
      try clear hfz17_5
      try clear hfz20_0
      try clear hfz20_1
      try clear hfz20_2
      try clear hfz20_3
      try clear hfz20_4
      try clear hfz20_5
      try clear hfz25_0
      try clear hfz25_1
      try clear hfz25_2
      try clear hfz25_3
      try clear hfz25_4
      try clear hfz25_5
      try clear hfz29_0
      try clear hfz29_1
      try clear hfz29_2
      try clear hfz29_3
      try clear hfz29_4
      try clear hfz29_5
      try clear hfz35_0
      try clear hfz35_1
      try clear hfz35_2
      try clear hfz35_3
      try clear hfz35_4
      try clear hfz35_5
      try clear hfz41_0
      try clear hfz41_1
      try clear hfz41_2
      try clear hfz41_3
      try clear hfz41_4
      try clear hfz41_5
      try clear hfz47_0
      try clear hfz47_1
      try clear hfz47_2
      try clear hfz47_3
      try clear hfz47_4
      try clear hfz47_5
      try clear hfz53_0
      try clear hfz53_1
      try clear hfz53_2
      try clear hfz53_3
      try clear hfz53_4
      try clear hfz53_5
      try clear p2
      obtain ⟨kq, x1001_25, x1002_25, x337003_25, HA, HJ25, BK329, BK336, HI0, HK, HB⟩ := hcut
      cases kq with
      | zero => exact absurd HA.out (by simp [spec_l1Cur_step.j2])
      | succ kj25 =>
       have H := HA.out
       clear HA
       simp only [spec_l1Cur_step.j2] at H
       have HC54 := am_ H
       clear H
       have hnb55 := NB336_329.out
       have hnc55 := NB329_336.out
       have hnb56 := NB336_0.out
       have hnc56 := NB0_336.out
       have hcz57_0 := cq_ BK336.out 0 (.int .i64 x337000_20)
       have hcz57_1 := cq_ BK336.out 1 (.int .i64 0)
       have hcz57_2 := cq_ BK336.out 2 (.int .i64 0)
       have hcz57_3 := cq_ BK336.out 3 (.int .i64 x337003_25)
       have hcz57_4 := cq_ BK336.out 4 (.int .i64 0)
       have hcz57_5 := cq_ BK336.out 5 (.int .i64 0)
       have hfz57_0 := blk_frozen BK336.out 0
       have hfz57_1 := blk_frozen BK336.out 1
       have hfz57_2 := blk_frozen BK336.out 2
       have hfz57_3 := blk_frozen BK336.out 3
       have hfz57_4 := blk_frozen BK336.out 4
       have hfz57_5 := blk_frozen BK336.out 5
       go_upto_if 30 with (fail)
       go_cut [] (fun wc => ∃ (kq : Nat) (x1001_53 : Int) (x1002_53 : Int) (x337002_53 : Int), Aside0 (spec_l1Cur_step.j3 kq a1 s0_0 x1001_53 x1002_53 x337000_20 0 x337002_53 x337003_25 0 0 = some (r1, r2, r3, r4, r5, r6, r7, r8)) ∧ Aside0 (kq ≤ kj25) ∧ Aside0 (wc.heap[gb329]? = some (.cells #[.int .i64 0, .int .i64 0, .int .i64 0, .int .i64 0, .int .i64 0, .int .i64 0] 51 (0, 0))) ∧ Aside0 (wc.heap[gb336]? = some (.cells #[.int .i64 x337000_20, .int .i64 0, .int .i64 x337002_53, .int .i64 x337003_25, .int .i64 0, .int .i64 0] 51 (0, 0))) ∧ Aside0 (IsS68 w0 wc g s0_0 x1001_53 x1002_53) ∧ Aside0 (KeepBut w wc g none) ∧ Aside0 (Below w0.heap.size w0 wc))
       case first =>
        have H := HC54.out
        clear HC54
        by_cases c58 : x337000_20 = 8
        ·rw [if_pos c58] at H
         have c58b0 : (x337000_20 == 8) = true := beq_iff_eq.mpr c58
         have c58b1 : (x337000_20 != 8) = false := bne_eq_false_iff_eq.mpr c58
         clear c58
         (first | rw [c58b0] | (simp only [i64_w, i32_w]; rw [c58b0]) | skip)
         have H' := am_ H
         clear H
         go_wp2
         go_meet
         case rel => exact ⟨_, (x1001_25), (x1002_25), (0), H', ⟨by have := HJ3.out; have := HJ20.out; have := HJ25.out; first | omega | exact Nat.le_refl _⟩, ⟨bk_ BK329.out⟩, ⟨bk_ BK336.out⟩, ⟨by repeat (first | (with_reducible first | exact HI0.out | apply IsS68.alloc | apply IsS68.drewN | apply IsS68.drew | apply IsS68.set_1 | apply IsS68.set_2 | refine IsS68.far ?_ NB0_329.out _ | refine IsS68.far ?_ NB0_336.out _) | exact HI0.out)⟩, ⟨by repeat (first | (with_reducible first | exact HK.out | apply KeepBut.set_ | apply keep_drewN | apply keep_drew | apply keep_alloc | refine keep_far ?_ GW329.out _ | refine keep_far ?_ GW336.out _) | exact HK.out)⟩, ⟨by repeat (first | (with_reducible first | exact HB.out | apply below_alloc | apply pw_below_drewN | apply below_drew1 | refine below_set ?_ (IsS68.ge HI0.out) | refine below_set ?_ GE329.out | refine below_set ?_ GE336.out) | exact HB.out)⟩⟩
        ·rw [if_neg c58] at H
         have c58b0 : (x337000_20 == 8) = false := beq_eq_false_iff_ne.mpr c58
         have c58b1 : (x337000_20 != 8) = true := bne_iff_ne.mpr c58
         (first | rw [c58b0] | (simp only [i64_w, i32_w]; rw [c58b0]) | skip)
         replace H := Option.bind_eq_some_iff.mp H
         obtain ⟨⟨t349, t350, t351⟩, A590, H⟩ := H
         replace H : (spec_l1Cur_step.j3 kj25 a1 s0_0 t350 t351 x337000_20 0 t349 x337003_25 0 0) = some (r1, r2, r3, r4, r5, r6, r7, r8) := H
         have A59 := am_ A590
         clear A590
         have H' := am_ H
         clear H
         go_wp2_with (first | ((with_reducible refine gl_ 76 rfl ?_); refine goesM_ (some 32) Try.func76 #[.pointer (some ⟨g, 0, none⟩), .int .i64 3] ?_; (with_reducible refine (spec_l1Cur_pick.calls g s0_0 x1001_25 x1002_25 3 t349 t350 t351 w0 _ ?side1 ?side2 A59.out).mono ?_); (case side1 => repeat (first | (with_reducible first | exact HI0.out | apply IsS68.alloc | apply IsS68.drewN | apply IsS68.drew | apply IsS68.set_1 | apply IsS68.set_2 | refine IsS68.far ?_ NB0_329.out _ | refine IsS68.far ?_ NB0_336.out _) | exact HI0.out)); (case side2 => repeat (first | (with_reducible first | exact HB.out | apply below_alloc | apply pw_below_drewN | apply below_drew1 | refine below_set ?_ (IsS68.ge HI0.out) | refine below_set ?_ GE329.out | refine below_set ?_ GE336.out) | exact HB.out)); rintro e w60 ⟨rfl, hi, hb, hk⟩; refine ⟨_, rfl, ?_⟩; replace BK329 := am_ (KeepBut.blk hk (g' := gb329) (o := .cells #[.int .i64 0, .int .i64 0, .int .i64 0, .int .i64 0, .int .i64 0, .int .i64 0] 51 (0, 0)) (bk_ BK329.out) NB329_0.out (by simp)); replace BK336 := am_ (KeepBut.blk hk (g' := gb336) (o := .cells #[.int .i64 x337000_20, .int .i64 0, .int .i64 0, .int .i64 x337003_25, .int .i64 0, .int .i64 0] 51 (0, 0)) (bk_ BK336.out) NB336_0.out (by simp)); replace HK := am_ (KeepBut.trans y3_ hk (.inl rfl)); replace HB := am_ (hb); replace HI0 := am_ (hi); (try clear hb); (try clear hk); (try clear hi); have hnb61 := NB336_329.out; have hnc61 := NB329_336.out; have hnb62 := NB336_0.out; have hnc62 := NB0_336.out; have hcz63_0 := cq_ BK336.out 0 (.int .i64 x337000_20); have hcz63_1 := cq_ BK336.out 1 (.int .i64 0); have hcz63_2 := cq_ BK336.out 2 (.int .i64 0); have hcz63_3 := cq_ BK336.out 3 (.int .i64 x337003_25); have hcz63_4 := cq_ BK336.out 4 (.int .i64 0); have hcz63_5 := cq_ BK336.out 5 (.int .i64 0); have hfz63_0 := blk_frozen BK336.out 0; have hfz63_1 := blk_frozen BK336.out 1; have hfz63_2 := blk_frozen BK336.out 2; have hfz63_3 := blk_frozen BK336.out 3; have hfz63_4 := blk_frozen BK336.out 4; have hfz63_5 := blk_frozen BK336.out 5))
         go_meet
         case rel => exact ⟨_, (t350), (t351), (t349), H', ⟨by have := HJ3.out; have := HJ20.out; have := HJ25.out; first | omega | exact Nat.le_refl _⟩, ⟨by (with_reducible repeat (first | refine blk_drewN ?_ _ | refine blk_drew ?_ | refine blk_alloc ?_ _)); refine blk_far ?_ NB329_336.out _; (with_reducible repeat (first | refine blk_drewN ?_ _ | refine blk_drew ?_ | refine blk_alloc ?_ _)); exact BK329.out⟩, ⟨by (with_reducible repeat (first | refine blk_drewN ?_ _ | refine blk_drew ?_ | refine blk_alloc ?_ _)); refine blk_put (cs := #[.int .i64 x337000_20, .int .i64 0, .int .i64 0, .int .i64 x337003_25, .int .i64 0, .int .i64 0]) ?_ 2 _ rfl; (with_reducible repeat (first | refine blk_drewN ?_ _ | refine blk_drew ?_ | refine blk_alloc ?_ _)); exact BK336.out⟩, ⟨by repeat (first | (with_reducible first | exact HI0.out | apply IsS68.alloc | apply IsS68.drewN | apply IsS68.drew | apply IsS68.set_1 | apply IsS68.set_2 | refine IsS68.far ?_ NB0_329.out _ | refine IsS68.far ?_ NB0_336.out _) | exact HI0.out)⟩, ⟨by repeat (first | (with_reducible first | exact HK.out | apply KeepBut.set_ | apply keep_drewN | apply keep_drew | apply keep_alloc | refine keep_far ?_ GW329.out _ | refine keep_far ?_ GW336.out _) | exact HK.out)⟩, ⟨by repeat (first | (with_reducible first | exact HB.out | apply below_alloc | apply pw_below_drewN | apply below_drew1 | refine below_set ?_ (IsS68.ge HI0.out) | refine below_set ?_ GE329.out | refine below_set ?_ GE336.out) | exact HB.out)⟩⟩
       case rest =>
        clear HC54
        try clear c1
        try clear c2
        try clear p2
        try clear c3
        try clear c4
        try clear c5
        try clear c6
        try clear c7
        try clear c11
        try clear c12
        try clear c14
        try clear c14b0
        try clear c15
        try clear c16
        try clear c18
        try clear c19
        try clear c22
        try clear c23
        try clear c24
        try clear c27
        try clear c28
        try clear c30
        try clear c30b0
        try clear c30b1
        try clear c33
        try clear c34
        try clear c36
        try clear c36b0
        try clear c36b1
        try clear c39
        try clear c40
        try clear c42
        try clear c42b0
        try clear c42b1
        try clear c45
        try clear c46
        try clear c48
        try clear c48b0
        try clear c48b1
        try clear c51
        try clear c52
        try clear c55
        try clear c56
        try clear c58
        try clear c58b0
        try clear c58b1
        try clear c61
        try clear c62
        try clear hcz13_0
        try clear hcz13_1
        try clear hcz13_2
        try clear hcz13_3
        try clear hcz13_4
        try clear hcz13_5
        try clear hcz17_0
        try clear hcz17_1
        try clear hcz17_2
        try clear hcz17_3
        try clear hcz17_4
        try clear hcz17_5
        try clear hcz20_0
        try clear hcz20_1
        try clear hcz20_2
        try clear hcz20_3
        try clear hcz20_4
        try clear hcz20_5
        try clear hcz25_0
        try clear hcz25_1
        try clear hcz25_2
        try clear hcz25_3
        try clear hcz25_4
        try clear hcz25_5
        try clear hcz29_0
        try clear hcz29_1
        try clear hcz29_2
        try clear hcz29_3
        try clear hcz29_4
        try clear hcz29_5
        try clear hcz35_0
        try clear hcz35_1
        try clear hcz35_2
        try clear hcz35_3
        try clear hcz35_4
        try clear hcz35_5
        try clear hcz41_0
        try clear hcz41_1
        try clear hcz41_2
        try clear hcz41_3
        try clear hcz41_4
        try clear hcz41_5
        try clear hcz47_0
        try clear hcz47_1
        try clear hcz47_2
        try clear hcz47_3
        try clear hcz47_4
        try clear hcz47_5
        try clear hcz53_0
        try clear hcz53_1
        try clear hcz53_2
        try clear hcz53_3
        try clear hcz53_4
        try clear hcz53_5
        try clear hcz57_0
        try clear hcz57_1
        try clear hcz57_2
        try clear hcz57_3
        try clear hcz57_4
        try clear hcz57_5
        try clear hcz63_0
        try clear hcz63_1
        try clear hcz63_2
        try clear hcz63_3
        try clear hcz63_4
        try clear hcz63_5
        try clear hfz13_0
        try clear hfz13_1
        try clear hfz13_2
        try clear hfz13_3
        try clear hfz13_4
        try clear hfz13_5
        try clear hfz17_0
        try clear hfz17_1
        try clear hfz17_2
        try clear hfz17_3
        try clear hfz17_4
        try clear hfz17_5
        try clear hfz20_0
        try clear hfz20_1
        try clear hfz20_2
        try clear hfz20_3
        try clear hfz20_4
        try clear hfz20_5
        try clear hfz25_0
        try clear hfz25_1
        try clear hfz25_2
        try clear hfz25_3
        try clear hfz25_4
        try clear hfz25_5
        try clear hfz29_0
        try clear hfz29_1
        try clear hfz29_2
        try clear hfz29_3
        try clear hfz29_4
        try clear hfz29_5
        try clear hfz35_0
        try clear hfz35_1
        try clear hfz35_2
        try clear hfz35_3
        try clear hfz35_4
        try clear hfz35_5
        try clear hfz41_0
        try clear hfz41_1
        try clear hfz41_2
        try clear hfz41_3
        try clear hfz41_4
        try clear hfz41_5
        try clear hfz47_0
        try clear hfz47_1
        try clear hfz47_2
        try clear hfz47_3
        try clear hfz47_4
        try clear hfz47_5
        try clear hfz53_0
        try clear hfz53_1
        try clear hfz53_2
        try clear hfz53_3
        try clear hfz53_4
        try clear hfz53_5
        try clear hfz57_0
        try clear hfz57_1
        try clear hfz57_2
        try clear hfz57_3
        try clear hfz57_4
        try clear hfz57_5
        try clear hfz63_0
        try clear hfz63_1
        try clear hfz63_2
        try clear hfz63_3
        try clear hfz63_4
        try clear hfz63_5
        try clear p2
        obtain ⟨kq, x1001_53, x1002_53, x337002_53, HA, HJ53, BK329, BK336, HI0, HK, HB⟩ := hcut
        cases kq with
        | zero => exact absurd HA.out (by simp [spec_l1Cur_step.j3])
        | succ kj53 =>
         have H := HA.out
         clear HA
         simp only [spec_l1Cur_step.j3] at H
         have HC64 := am_ H
         clear H
         have hnb65 := NB336_329.out
         have hnc65 := NB329_336.out
         have hnb66 := NB336_0.out
         have hnc66 := NB0_336.out
         have hcz67_0 := cq_ BK336.out 0 (.int .i64 x337000_20)
         have hcz67_1 := cq_ BK336.out 1 (.int .i64 0)
         have hcz67_2 := cq_ BK336.out 2 (.int .i64 x337002_53)
         have hcz67_3 := cq_ BK336.out 3 (.int .i64 x337003_25)
         have hcz67_4 := cq_ BK336.out 4 (.int .i64 0)
         have hcz67_5 := cq_ BK336.out 5 (.int .i64 0)
         have hfz67_0 := blk_frozen BK336.out 0
         have hfz67_1 := blk_frozen BK336.out 1
         have hfz67_2 := blk_frozen BK336.out 2
         have hfz67_3 := blk_frozen BK336.out 3
         have hfz67_4 := blk_frozen BK336.out 4
         have hfz67_5 := blk_frozen BK336.out 5
         go_upto_block 1 with (fail)
         go_cut [] (fun wc => ∃ (kq : Nat) (x1001_63 : Int) (x1002_63 : Int) (x337001_63 : Int), Aside0 (spec_l1Cur_step.j4 kq a1 s0_0 x1001_63 x1002_63 x337000_20 x337001_63 x337002_53 x337003_25 0 0 = some (r1, r2, r3, r4, r5, r6, r7, r8)) ∧ Aside0 (kq ≤ kj53) ∧ Aside0 (wc.heap[gb329]? = some (.cells #[.int .i64 0, .int .i64 0, .int .i64 0, .int .i64 0, .int .i64 0, .int .i64 0] 51 (0, 0))) ∧ Aside0 (wc.heap[gb336]? = some (.cells #[.int .i64 x337000_20, .int .i64 x337001_63, .int .i64 x337002_53, .int .i64 x337003_25, .int .i64 0, .int .i64 0] 51 (0, 0))) ∧ Aside0 (IsS68 w0 wc g s0_0 x1001_63 x1002_63) ∧ Aside0 (KeepBut w wc g none) ∧ Aside0 (Below w0.heap.size w0 wc))
         case first =>
          have H := HC64.out
          clear HC64
          by_cases c68 : x337000_20 = 1
          ·rw [if_pos c68] at H
           have c68b0 : (x337000_20 == 1) = true := beq_iff_eq.mpr c68
           have c68b1 : (x337000_20 != 1) = false := bne_eq_false_iff_eq.mpr c68
           clear c68
           (first | rw [c68b0] | (simp only [i64_w, i32_w]; rw [c68b0]) | skip)
           replace H := Option.bind_eq_some_iff.mp H
           obtain ⟨⟨t352, t353, t354⟩, A690, H⟩ := H
           replace H : (spec_l1Cur_step.j4 kj53 a1 s0_0 t353 t354 x337000_20 (wrap64 (1 + t352)) x337002_53 x337003_25 0 0) = some (r1, r2, r3, r4, r5, r6, r7, r8) := H
           have A69 := am_ A690
           clear A690
           have H' := am_ H
           clear H
           go_wp2_with (first | ((with_reducible refine gl_ 76 rfl ?_); refine goesM_ (some 40) Try.func76 #[.pointer (some ⟨g, 0, none⟩), .int .i64 10] ?_; (with_reducible refine (spec_l1Cur_pick.calls g s0_0 x1001_53 x1002_53 10 t352 t353 t354 w0 _ ?side1 ?side2 A69.out).mono ?_); (case side1 => repeat (first | (with_reducible first | exact HI0.out | apply IsS68.alloc | apply IsS68.drewN | apply IsS68.drew | apply IsS68.set_1 | apply IsS68.set_2 | refine IsS68.far ?_ NB0_329.out _ | refine IsS68.far ?_ NB0_336.out _) | exact HI0.out)); (case side2 => repeat (first | (with_reducible first | exact HB.out | apply below_alloc | apply pw_below_drewN | apply below_drew1 | refine below_set ?_ (IsS68.ge HI0.out) | refine below_set ?_ GE329.out | refine below_set ?_ GE336.out) | exact HB.out)); rintro e w70 ⟨rfl, hi, hb, hk⟩; refine ⟨_, rfl, ?_⟩; replace BK329 := am_ (KeepBut.blk hk (g' := gb329) (o := .cells #[.int .i64 0, .int .i64 0, .int .i64 0, .int .i64 0, .int .i64 0, .int .i64 0] 51 (0, 0)) (bk_ BK329.out) NB329_0.out (by simp)); replace BK336 := am_ (KeepBut.blk hk (g' := gb336) (o := .cells #[.int .i64 x337000_20, .int .i64 0, .int .i64 x337002_53, .int .i64 x337003_25, .int .i64 0, .int .i64 0] 51 (0, 0)) (bk_ BK336.out) NB336_0.out (by simp)); replace HK := am_ (KeepBut.trans y3_ hk (.inl rfl)); replace HB := am_ (hb); replace HI0 := am_ (hi); (try clear hb); (try clear hk); (try clear hi); have hnb71 := NB336_329.out; have hnc71 := NB329_336.out; have hnb72 := NB336_0.out; have hnc72 := NB0_336.out; have hcz73_0 := cq_ BK336.out 0 (.int .i64 x337000_20); have hcz73_1 := cq_ BK336.out 1 (.int .i64 0); have hcz73_2 := cq_ BK336.out 2 (.int .i64 x337002_53); have hcz73_3 := cq_ BK336.out 3 (.int .i64 x337003_25); have hcz73_4 := cq_ BK336.out 4 (.int .i64 0); have hcz73_5 := cq_ BK336.out 5 (.int .i64 0); have hfz73_0 := blk_frozen BK336.out 0; have hfz73_1 := blk_frozen BK336.out 1; have hfz73_2 := blk_frozen BK336.out 2; have hfz73_3 := blk_frozen BK336.out 3; have hfz73_4 := blk_frozen BK336.out 4; have hfz73_5 := blk_frozen BK336.out 5))
           go_meet
           case rel => exact ⟨_, (t353), (t354), (wrap64 (1 + t352)), H', ⟨by have := HJ3.out; have := HJ20.out; have := HJ25.out; have := HJ53.out; first | omega | exact Nat.le_refl _⟩, ⟨by (with_reducible repeat (first | refine blk_drewN ?_ _ | refine blk_drew ?_ | refine blk_alloc ?_ _)); refine blk_far ?_ NB329_336.out _; (with_reducible repeat (first | refine blk_drewN ?_ _ | refine blk_drew ?_ | refine blk_alloc ?_ _)); exact BK329.out⟩, ⟨by (with_reducible repeat (first | refine blk_drewN ?_ _ | refine blk_drew ?_ | refine blk_alloc ?_ _)); refine blk_put (cs := #[.int .i64 x337000_20, .int .i64 0, .int .i64 x337002_53, .int .i64 x337003_25, .int .i64 0, .int .i64 0]) ?_ 1 _ rfl; (with_reducible repeat (first | refine blk_drewN ?_ _ | refine blk_drew ?_ | refine blk_alloc ?_ _)); exact BK336.out⟩, ⟨by repeat (first | (with_reducible first | exact HI0.out | apply IsS68.alloc | apply IsS68.drewN | apply IsS68.drew | apply IsS68.set_1 | apply IsS68.set_2 | refine IsS68.far ?_ NB0_329.out _ | refine IsS68.far ?_ NB0_336.out _) | exact HI0.out)⟩, ⟨by repeat (first | (with_reducible first | exact HK.out | apply KeepBut.set_ | apply keep_drewN | apply keep_drew | apply keep_alloc | refine keep_far ?_ GW329.out _ | refine keep_far ?_ GW336.out _) | exact HK.out)⟩, ⟨by repeat (first | (with_reducible first | exact HB.out | apply below_alloc | apply pw_below_drewN | apply below_drew1 | refine below_set ?_ (IsS68.ge HI0.out) | refine below_set ?_ GE329.out | refine below_set ?_ GE336.out) | exact HB.out)⟩⟩
          ·rw [if_neg c68] at H
           have c68b0 : (x337000_20 == 1) = false := beq_eq_false_iff_ne.mpr c68
           have c68b1 : (x337000_20 != 1) = true := bne_iff_ne.mpr c68
           (first | rw [c68b0] | (simp only [i64_w, i32_w]; rw [c68b0]) | skip)
           by_cases c74 : x337000_20 = 2
           ·rw [if_pos c74] at H
            have c74b0 : (x337000_20 == 2) = true := beq_iff_eq.mpr c74
            have c74b1 : (x337000_20 != 2) = false := bne_eq_false_iff_eq.mpr c74
            clear c74
            replace H := Option.bind_eq_some_iff.mp H
            obtain ⟨⟨t355, t356, t357⟩, A750, H⟩ := H
            replace H : (spec_l1Cur_step.j4 kj53 a1 s0_0 t356 t357 x337000_20 (wrap64 (1 + t355)) x337002_53 x337003_25 0 0) = some (r1, r2, r3, r4, r5, r6, r7, r8) := H
            have A75 := am_ A750
            clear A750
            have H' := am_ H
            clear H
            go_wp2_with (first | ((with_reducible refine gl_ 76 rfl ?_); refine goesM_ (some 40) Try.func76 #[.pointer (some ⟨g, 0, none⟩), .int .i64 10] ?_; (with_reducible refine (spec_l1Cur_pick.calls g s0_0 x1001_53 x1002_53 10 t355 t356 t357 w0 _ ?side1 ?side2 A75.out).mono ?_); (case side1 => repeat (first | (with_reducible first | exact HI0.out | apply IsS68.alloc | apply IsS68.drewN | apply IsS68.drew | apply IsS68.set_1 | apply IsS68.set_2 | refine IsS68.far ?_ NB0_329.out _ | refine IsS68.far ?_ NB0_336.out _) | exact HI0.out)); (case side2 => repeat (first | (with_reducible first | exact HB.out | apply below_alloc | apply pw_below_drewN | apply below_drew1 | refine below_set ?_ (IsS68.ge HI0.out) | refine below_set ?_ GE329.out | refine below_set ?_ GE336.out) | exact HB.out)); rintro e w76 ⟨rfl, hi, hb, hk⟩; refine ⟨_, rfl, ?_⟩; replace BK329 := am_ (KeepBut.blk hk (g' := gb329) (o := .cells #[.int .i64 0, .int .i64 0, .int .i64 0, .int .i64 0, .int .i64 0, .int .i64 0] 51 (0, 0)) (bk_ BK329.out) NB329_0.out (by simp)); replace BK336 := am_ (KeepBut.blk hk (g' := gb336) (o := .cells #[.int .i64 x337000_20, .int .i64 0, .int .i64 x337002_53, .int .i64 x337003_25, .int .i64 0, .int .i64 0] 51 (0, 0)) (bk_ BK336.out) NB336_0.out (by simp)); replace HK := am_ (KeepBut.trans y3_ hk (.inl rfl)); replace HB := am_ (hb); replace HI0 := am_ (hi); (try clear hb); (try clear hk); (try clear hi); have hnb77 := NB336_329.out; have hnc77 := NB329_336.out; have hnb78 := NB336_0.out; have hnc78 := NB0_336.out; have hcz79_0 := cq_ BK336.out 0 (.int .i64 x337000_20); have hcz79_1 := cq_ BK336.out 1 (.int .i64 0); have hcz79_2 := cq_ BK336.out 2 (.int .i64 x337002_53); have hcz79_3 := cq_ BK336.out 3 (.int .i64 x337003_25); have hcz79_4 := cq_ BK336.out 4 (.int .i64 0); have hcz79_5 := cq_ BK336.out 5 (.int .i64 0); have hfz79_0 := blk_frozen BK336.out 0; have hfz79_1 := blk_frozen BK336.out 1; have hfz79_2 := blk_frozen BK336.out 2; have hfz79_3 := blk_frozen BK336.out 3; have hfz79_4 := blk_frozen BK336.out 4; have hfz79_5 := blk_frozen BK336.out 5))
            go_meet
            case rel => exact ⟨_, (t356), (t357), (wrap64 (1 + t355)), H', ⟨by have := HJ3.out; have := HJ20.out; have := HJ25.out; have := HJ53.out; first | omega | exact Nat.le_refl _⟩, ⟨by (with_reducible repeat (first | refine blk_drewN ?_ _ | refine blk_drew ?_ | refine blk_alloc ?_ _)); refine blk_far ?_ NB329_336.out _; (with_reducible repeat (first | refine blk_drewN ?_ _ | refine blk_drew ?_ | refine blk_alloc ?_ _)); exact BK329.out⟩, ⟨by (with_reducible repeat (first | refine blk_drewN ?_ _ | refine blk_drew ?_ | refine blk_alloc ?_ _)); refine blk_put (cs := #[.int .i64 x337000_20, .int .i64 0, .int .i64 x337002_53, .int .i64 x337003_25, .int .i64 0, .int .i64 0]) ?_ 1 _ rfl; (with_reducible repeat (first | refine blk_drewN ?_ _ | refine blk_drew ?_ | refine blk_alloc ?_ _)); exact BK336.out⟩, ⟨by repeat (first | (with_reducible first | exact HI0.out | apply IsS68.alloc | apply IsS68.drewN | apply IsS68.drew | apply IsS68.set_1 | apply IsS68.set_2 | refine IsS68.far ?_ NB0_329.out _ | refine IsS68.far ?_ NB0_336.out _) | exact HI0.out)⟩, ⟨by repeat (first | (with_reducible first | exact HK.out | apply KeepBut.set_ | apply keep_drewN | apply keep_drew | apply keep_alloc | refine keep_far ?_ GW329.out _ | refine keep_far ?_ GW336.out _) | exact HK.out)⟩, ⟨by repeat (first | (with_reducible first | exact HB.out | apply below_alloc | apply pw_below_drewN | apply below_drew1 | refine below_set ?_ (IsS68.ge HI0.out) | refine below_set ?_ GE329.out | refine below_set ?_ GE336.out) | exact HB.out)⟩⟩
           ·rw [if_neg c74] at H
            have c74b0 : (x337000_20 == 2) = false := beq_eq_false_iff_ne.mpr c74
            have c74b1 : (x337000_20 != 2) = true := bne_iff_ne.mpr c74
            have H' := am_ H
            clear H
            go_wp2
            go_meet
            case rel => exact ⟨_, (x1001_53), (x1002_53), (0), H', ⟨by have := HJ3.out; have := HJ20.out; have := HJ25.out; have := HJ53.out; first | omega | exact Nat.le_refl _⟩, ⟨bk_ BK329.out⟩, ⟨bk_ BK336.out⟩, ⟨by repeat (first | (with_reducible first | exact HI0.out | apply IsS68.alloc | apply IsS68.drewN | apply IsS68.drew | apply IsS68.set_1 | apply IsS68.set_2 | refine IsS68.far ?_ NB0_329.out _ | refine IsS68.far ?_ NB0_336.out _) | exact HI0.out)⟩, ⟨by repeat (first | (with_reducible first | exact HK.out | apply KeepBut.set_ | apply keep_drewN | apply keep_drew | apply keep_alloc | refine keep_far ?_ GW329.out _ | refine keep_far ?_ GW336.out _) | exact HK.out)⟩, ⟨by repeat (first | (with_reducible first | exact HB.out | apply below_alloc | apply pw_below_drewN | apply below_drew1 | refine below_set ?_ (IsS68.ge HI0.out) | refine below_set ?_ GE329.out | refine below_set ?_ GE336.out) | exact HB.out)⟩⟩
         case rest =>
          clear HC64
          try clear c1
          try clear c2
          try clear p2
          try clear c3
          try clear c4
          try clear c5
          try clear c6
          try clear p6
          try clear c7
          try clear c11
          try clear c12
          try clear c14
          try clear c14b0
          try clear c15
          try clear c16
          try clear c18
          try clear c19
          try clear c22
          try clear c23
          try clear c24
          try clear c27
          try clear c28
          try clear c30
          try clear c30b0
          try clear c30b1
          try clear c33
          try clear c34
          try clear c36
          try clear c36b0
          try clear c36b1
          try clear c39
          try clear c40
          try clear c42
          try clear c42b0
          try clear c42b1
          try clear c45
          try clear c46
          try clear c48
          try clear c48b0
          try clear c48b1
          try clear c51
          try clear c52
          try clear c55
          try clear c56
          try clear c58
          try clear c58b0
          try clear c58b1
          try clear c61
          try clear c62
          try clear p64
          try clear c65
          try clear c66
          try clear c68
          try clear c68b0
          try clear c68b1
          try clear c71
          try clear c72
          try clear c74
          try clear c74b0
          try clear c74b1
          try clear c76
          try clear c77
          try clear c78
          try clear hcz13_0
          try clear hcz13_1
          try clear hcz13_2
          try clear hcz13_3
          try clear hcz13_4
          try clear hcz13_5
          try clear hcz17_0
          try clear hcz17_1
          try clear hcz17_2
          try clear hcz17_3
          try clear hcz17_4
          try clear hcz17_5
          try clear hcz20_0
          try clear hcz20_1
          try clear hcz20_2
          try clear hcz20_3
          try clear hcz20_4
          try clear hcz20_5
          try clear hcz25_0
          try clear hcz25_1
          try clear hcz25_2
          try clear hcz25_3
          try clear hcz25_4
          try clear hcz25_5
          try clear hcz29_0
          try clear hcz29_1
          try clear hcz29_2
          try clear hcz29_3
          try clear hcz29_4
          try clear hcz29_5
          try clear hcz35_0
          try clear hcz35_1
          try clear hcz35_2
          try clear hcz35_3
          try clear hcz35_4
          try clear hcz35_5
          try clear hcz41_0
          try clear hcz41_1
          try clear hcz41_2
          try clear hcz41_3
          try clear hcz41_4
          try clear hcz41_5
          try clear hcz47_0
          try clear hcz47_1
          try clear hcz47_2
          try clear hcz47_3
          try clear hcz47_4
          try clear hcz47_5
          try clear hcz53_0
          try clear hcz53_1
          try clear hcz53_2
          try clear hcz53_3
          try clear hcz53_4
          try clear hcz53_5
          try clear hcz57_0
          try clear hcz57_1
          try clear hcz57_2
          try clear hcz57_3
          try clear hcz57_4
          try clear hcz57_5
          try clear hcz63_0
          try clear hcz63_1
          try clear hcz63_2
          try clear hcz63_3
          try clear hcz63_4
          try clear hcz63_5
          try clear hcz67_0
          try clear hcz67_1
          try clear hcz67_2
          try clear hcz67_3
          try clear hcz67_4
          try clear hcz67_5
          try clear hcz73_0
          try clear hcz73_1
          try clear hcz73_2
          try clear hcz73_3
          try clear hcz73_4
          try clear hcz73_5
          try clear hcz79_0
          try clear hcz79_1
          try clear hcz79_2
          try clear hcz79_3
          try clear hcz79_4
          try clear hcz79_5
          try clear hfz13_0
          try clear hfz13_1
          try clear hfz13_2
          try clear hfz13_3
          try clear hfz13_4
          try clear hfz13_5
          try clear hfz17_0
          try clear hfz17_1
          try clear hfz17_2
          try clear hfz17_3
          try clear hfz17_4
          try clear hfz17_5
          try clear hfz20_0
          try clear hfz20_1
          try clear hfz20_2
          try clear hfz20_3
          try clear hfz20_4
          try clear hfz20_5
          try clear hfz25_0
          try clear hfz25_1
          try clear hfz25_2
          try clear hfz25_3
          try clear hfz25_4
          try clear hfz25_5
          try clear hfz29_0
          try clear hfz29_1
          try clear hfz29_2
          try clear hfz29_3
          try clear hfz29_4
          try clear hfz29_5
          try clear hfz35_0
          try clear hfz35_1
          try clear hfz35_2
          try clear hfz35_3
          try clear hfz35_4
          try clear hfz35_5
          try clear hfz41_0
          try clear hfz41_1
          try clear hfz41_2
          try clear hfz41_3
          try clear hfz41_4
          try clear hfz41_5
          try clear hfz47_0
          try clear hfz47_1
          try clear hfz47_2
          try clear hfz47_3
          try clear hfz47_4
          try clear hfz47_5
          try clear hfz53_0
          try clear hfz53_1
          try clear hfz53_2
          try clear hfz53_3
          try clear hfz53_4
          try clear hfz53_5
          try clear hfz57_0
          try clear hfz57_1
          try clear hfz57_2
          try clear hfz57_3
          try clear hfz57_4
          try clear hfz57_5
          try clear hfz63_0
          try clear hfz63_1
          try clear hfz63_2
          try clear hfz63_3
          try clear hfz63_4
          try clear hfz63_5
          try clear hfz67_0
          try clear hfz67_1
          try clear hfz67_2
          try clear hfz67_3
          try clear hfz67_4
          try clear hfz67_5
          try clear hfz73_0
          try clear hfz73_1
          try clear hfz73_2
          try clear hfz73_3
          try clear hfz73_4
          try clear hfz73_5
          try clear hfz79_0
          try clear hfz79_1
          try clear hfz79_2
          try clear hfz79_3
          try clear hfz79_4
          try clear hfz79_5
          try clear p2
          obtain ⟨kq, x1001_63, x1002_63, x337001_63, HA, HJ63, BK329, BK336, HI0, HK, HB⟩ := hcut
          cases kq with
          | zero => exact absurd HA.out (by simp [spec_l1Cur_step.j4])
          | succ kj63 =>
           have H := HA.out
           clear HA
           simp only [spec_l1Cur_step.j4] at H
           have HC80 := am_ H
           clear H
           have hnb81 := NB336_329.out
           have hnc81 := NB329_336.out
           have hnb82 := NB336_0.out
           have hnc82 := NB0_336.out
           have hcz83_0 := cq_ BK336.out 0 (.int .i64 x337000_20)
           have hcz83_1 := cq_ BK336.out 1 (.int .i64 x337001_63)
           have hcz83_2 := cq_ BK336.out 2 (.int .i64 x337002_53)
           have hcz83_3 := cq_ BK336.out 3 (.int .i64 x337003_25)
           have hcz83_4 := cq_ BK336.out 4 (.int .i64 0)
           have hcz83_5 := cq_ BK336.out 5 (.int .i64 0)
           have hfz83_0 := blk_frozen BK336.out 0
           have hfz83_1 := blk_frozen BK336.out 1
           have hfz83_2 := blk_frozen BK336.out 2
           have hfz83_3 := blk_frozen BK336.out 3
           have hfz83_4 := blk_frozen BK336.out 4
           have hfz83_5 := blk_frozen BK336.out 5
           go_upto_if 45 with (fail)
           go_cut [45] (fun v45 wc => ∃ (kq : Nat) (x45_79 : Bool), v45 = .bool x45_79 ∧ Aside0 (spec_l1Cur_step.j5 kq a1 x337000_20 x45_79 s0_0 x1001_63 x1002_63 x337000_20 x337001_63 x337002_53 x337003_25 0 0 = some (r1, r2, r3, r4, r5, r6, r7, r8)) ∧ Aside0 (kq ≤ kj63) ∧ Aside0 (wc.heap[gb329]? = some (.cells #[.int .i64 0, .int .i64 0, .int .i64 0, .int .i64 0, .int .i64 0, .int .i64 0] 51 (0, 0))) ∧ Aside0 (wc.heap[gb336]? = some (.cells #[.int .i64 x337000_20, .int .i64 x337001_63, .int .i64 x337002_53, .int .i64 x337003_25, .int .i64 0, .int .i64 0] 51 (0, 0))) ∧ Aside0 (IsS68 w0 wc g s0_0 x1001_63 x1002_63) ∧ Aside0 (KeepBut w wc g none) ∧ Aside0 (Below w0.heap.size w0 wc))
           case first =>
            have H := HC80.out
            clear HC80
            by_cases c84 : x337000_20 = 2
            ·rw [if_pos c84] at H
             have c84b0 : (x337000_20 == 2) = true := beq_iff_eq.mpr c84
             have c84b1 : (x337000_20 != 2) = false := bne_eq_false_iff_eq.mpr c84
             clear c84
             (first | rw [c84b0] | (simp only [i64_w, i32_w]; rw [c84b0]) | skip)
             have H' := am_ H
             clear H
             go_wp2
             go_meet
             case rel => exact ⟨_, ((x337000_20 == 2)), y14_, H', ⟨by have := HJ3.out; have := HJ20.out; have := HJ25.out; have := HJ53.out; have := HJ63.out; first | omega | exact Nat.le_refl _⟩, ⟨bk_ BK329.out⟩, ⟨bk_ BK336.out⟩, ⟨by repeat (first | (with_reducible first | exact HI0.out | apply IsS68.alloc | apply IsS68.drewN | apply IsS68.drew | apply IsS68.set_1 | apply IsS68.set_2 | refine IsS68.far ?_ NB0_329.out _ | refine IsS68.far ?_ NB0_336.out _) | exact HI0.out)⟩, ⟨by repeat (first | (with_reducible first | exact HK.out | apply KeepBut.set_ | apply keep_drewN | apply keep_drew | apply keep_alloc | refine keep_far ?_ GW329.out _ | refine keep_far ?_ GW336.out _) | exact HK.out)⟩, ⟨by repeat (first | (with_reducible first | exact HB.out | apply below_alloc | apply pw_below_drewN | apply below_drew1 | refine below_set ?_ (IsS68.ge HI0.out) | refine below_set ?_ GE329.out | refine below_set ?_ GE336.out) | exact HB.out)⟩⟩
            ·rw [if_neg c84] at H
             have c84b0 : (x337000_20 == 2) = false := beq_eq_false_iff_ne.mpr c84
             have c84b1 : (x337000_20 != 2) = true := bne_iff_ne.mpr c84
             (first | rw [c84b0] | (simp only [i64_w, i32_w]; rw [c84b0]) | skip)
             have H' := am_ H
             clear H
             go_wp2
             go_meet
             case rel => exact ⟨_, ((x337000_20 == 3)), y14_, H', ⟨by have := HJ3.out; have := HJ20.out; have := HJ25.out; have := HJ53.out; have := HJ63.out; first | omega | exact Nat.le_refl _⟩, ⟨bk_ BK329.out⟩, ⟨bk_ BK336.out⟩, ⟨by repeat (first | (with_reducible first | exact HI0.out | apply IsS68.alloc | apply IsS68.drewN | apply IsS68.drew | apply IsS68.set_1 | apply IsS68.set_2 | refine IsS68.far ?_ NB0_329.out _ | refine IsS68.far ?_ NB0_336.out _) | exact HI0.out)⟩, ⟨by repeat (first | (with_reducible first | exact HK.out | apply KeepBut.set_ | apply keep_drewN | apply keep_drew | apply keep_alloc | refine keep_far ?_ GW329.out _ | refine keep_far ?_ GW336.out _) | exact HK.out)⟩, ⟨by repeat (first | (with_reducible first | exact HB.out | apply below_alloc | apply pw_below_drewN | apply below_drew1 | refine below_set ?_ (IsS68.ge HI0.out) | refine below_set ?_ GE329.out | refine below_set ?_ GE336.out) | exact HB.out)⟩⟩
           case rest =>
            clear HC80
            try clear c1
            try clear c2
            try clear p2
            try clear c3
            try clear c4
            try clear c5
            try clear c6
            try clear p6
            try clear c7
            try clear c8
            try clear c11
            try clear c12
            try clear c14
            try clear c14b0
            try clear c15
            try clear c16
            try clear c18
            try clear c19
            try clear c22
            try clear c23
            try clear c24
            try clear c27
            try clear c28
            try clear c30
            try clear c30b0
            try clear c30b1
            try clear c33
            try clear c34
            try clear c36
            try clear c36b0
            try clear c36b1
            try clear c39
            try clear c40
            try clear c42
            try clear c42b0
            try clear c42b1
            try clear c45
            try clear c46
            try clear c48
            try clear c48b0
            try clear c48b1
            try clear c51
            try clear c52
            try clear c55
            try clear c56
            try clear c58
            try clear c58b0
            try clear c58b1
            try clear c61
            try clear c62
            try clear p64
            try clear c65
            try clear c66
            try clear c68
            try clear c68b0
            try clear c68b1
            try clear c71
            try clear c72
            try clear c74
            try clear c74b0
            try clear c74b1
            try clear c76
            try clear c77
            try clear c78
            try clear c81
            try clear c82
            try clear c84
            try clear c84b0
            try clear c84b1
            try clear hcz13_0
            try clear hcz13_1
            try clear hcz13_2
            try clear hcz13_3
            try clear hcz13_4
            try clear hcz13_5
            try clear hcz17_0
            try clear hcz17_1
            try clear hcz17_2
            try clear hcz17_3
            try clear hcz17_4
            try clear hcz17_5
            try clear hcz20_0
            try clear hcz20_1
            try clear hcz20_2
            try clear hcz20_3
            try clear hcz20_4
            try clear hcz20_5
            try clear hcz25_0
            try clear hcz25_1
            try clear hcz25_2
            try clear hcz25_3
            try clear hcz25_4
            try clear hcz25_5
            try clear hcz29_0
            try clear hcz29_1
            try clear hcz29_2
            try clear hcz29_3
            try clear hcz29_4
            try clear hcz29_5
            try clear hcz35_0
            try clear hcz35_1
            try clear hcz35_2
            try clear hcz35_3
            try clear hcz35_4
            try clear hcz35_5
            try clear hcz41_0
            try clear hcz41_1
            try clear hcz41_2
            try clear hcz41_3
            try clear hcz41_4
            try clear hcz41_5
            try clear hcz47_0
            try clear hcz47_1
            try clear hcz47_2
            try clear hcz47_3
            try clear hcz47_4
            try clear hcz47_5
            try clear hcz53_0
            try clear hcz53_1
            try clear hcz53_2
            try clear hcz53_3
            try clear hcz53_4
            try clear hcz53_5
            try clear hcz57_0
            try clear hcz57_1
            try clear hcz57_2
            try clear hcz57_3
            try clear hcz57_4
            try clear hcz57_5
            try clear hcz63_0
            try clear hcz63_1
            try clear hcz63_2
            try clear hcz63_3
            try clear hcz63_4
            try clear hcz63_5
            try clear hcz67_0
            try clear hcz67_1
            try clear hcz67_2
            try clear hcz67_3
            try clear hcz67_4
            try clear hcz67_5
            try clear hcz73_0
            try clear hcz73_1
            try clear hcz73_2
            try clear hcz73_3
            try clear hcz73_4
            try clear hcz73_5
            try clear hcz79_0
            try clear hcz79_1
            try clear hcz79_2
            try clear hcz79_3
            try clear hcz79_4
            try clear hcz79_5
            try clear hcz83_0
            try clear hcz83_1
            try clear hcz83_2
            try clear hcz83_3
            try clear hcz83_4
            try clear hcz83_5
            try clear hfz13_0
            try clear hfz13_1
            try clear hfz13_2
            try clear hfz13_3
            try clear hfz13_4
            try clear hfz13_5
            try clear hfz17_0
            try clear hfz17_1
            try clear hfz17_2
            try clear hfz17_3
            try clear hfz17_4
            try clear hfz17_5
            try clear hfz20_0
            try clear hfz20_1
            try clear hfz20_2
            try clear hfz20_3
            try clear hfz20_4
            try clear hfz20_5
            try clear hfz25_0
            try clear hfz25_1
            try clear hfz25_2
            try clear hfz25_3
            try clear hfz25_4
            try clear hfz25_5
            try clear hfz29_0
            try clear hfz29_1
            try clear hfz29_2
            try clear hfz29_3
            try clear hfz29_4
            try clear hfz29_5
            try clear hfz35_0
            try clear hfz35_1
            try clear hfz35_2
            try clear hfz35_3
            try clear hfz35_4
            try clear hfz35_5
            try clear hfz41_0
            try clear hfz41_1
            try clear hfz41_2
            try clear hfz41_3
            try clear hfz41_4
            try clear hfz41_5
            try clear hfz47_0
            try clear hfz47_1
            try clear hfz47_2
            try clear hfz47_3
            try clear hfz47_4
            try clear hfz47_5
            try clear hfz53_0
            try clear hfz53_1
            try clear hfz53_2
            try clear hfz53_3
            try clear hfz53_4
            try clear hfz53_5
            try clear hfz57_0
            try clear hfz57_1
            try clear hfz57_2
            try clear hfz57_3
            try clear hfz57_4
            try clear hfz57_5
            try clear hfz63_0
            try clear hfz63_1
            try clear hfz63_2
            try clear hfz63_3
            try clear hfz63_4
            try clear hfz63_5
            try clear hfz67_0
            try clear hfz67_1
            try clear hfz67_2
            try clear hfz67_3
            try clear hfz67_4
            try clear hfz67_5
            try clear hfz73_0
            try clear hfz73_1
            try clear hfz73_2
            try clear hfz73_3
            try clear hfz73_4
            try clear hfz73_5
            try clear hfz79_0
            try clear hfz79_1
            try clear hfz79_2
            try clear hfz79_3
            try clear hfz79_4
            try clear hfz79_5
            try clear hfz83_0
            try clear hfz83_1
            try clear hfz83_2
            try clear hfz83_3
            try clear hfz83_4
            try clear hfz83_5
            try clear p2
            try clear p6
            try clear p64
            obtain ⟨kq, x45_79, rfl, HA, HJ79, BK329, BK336, HI0, HK, HB⟩ := hcut
            cases kq with
            | zero => exact absurd HA.out (by simp [spec_l1Cur_step.j5])
            | succ kj79 =>
             have H := HA.out
             clear HA
             simp only [spec_l1Cur_step.j5] at H
             by_cases c85 : x45_79 = true
             ·subst c85
              have H1 : ((spec_l1Cur_pick.f s0_0 x1001_63 x1002_63 20).bind fun bt358 => ((spec_l1Cur_among.f s0_0 bt358.2.1 bt358.2.2 (([0, 1, 3, 7, 255, bt358.1] : List Int))).bind fun bt364 => (some (x337000_20, x337001_63, x337002_53, x337003_25, bt364.1, 0, bt364.2.1, bt364.2.2)))) = some (r1, r2, r3, r4, r5, r6, r7, r8) := by rw [if_pos rfl] at H; exact H
              clear H
              have H := H1
              clear H1
              replace H := Option.bind_eq_some_iff.mp H
              obtain ⟨⟨t358, t359, t360⟩, A860, H⟩ := H
              replace H : ((spec_l1Cur_among.f s0_0 t359 t360 (([0, 1, 3, 7, 255, t358] : List Int))).bind fun bt364 => (some (x337000_20, x337001_63, x337002_53, x337003_25, bt364.1, 0, bt364.2.1, bt364.2.2))) = some (r1, r2, r3, r4, r5, r6, r7, r8) := H
              have A86 := am_ A860
              clear A860
              obtain ⟨y361, hy361⟩ : ∃ y_ : List Int, y_ = (([0, 1, 3, 7, 255, t358] : List Int)) := ⟨_, rfl⟩
              replace H : ((spec_l1Cur_among.f s0_0 t359 t360 y361).bind fun bt364 => (some (x337000_20, x337001_63, x337002_53, x337003_25, bt364.1, 0, bt364.2.1, bt364.2.2))) = some (r1, r2, r3, r4, r5, r6, r7, r8) := by first | (rw [hy361]; with_reducible exact H) | (have H2_ := (Option.bind_some _ _).symm.trans H; rw [hy361]; with_reducible exact H2_) | (have H2_ := (Option.bind_some _ _).symm.trans H; with_reducible exact H2_) | with_reducible exact H | (rw [hy361]; exact H) | exact H
              have Ny361 := am_ hy361
              clear hy361
              replace H := Option.bind_eq_some_iff.mp H
              obtain ⟨⟨t364, t365, t366⟩, A870, H⟩ := H
              replace H : (some (x337000_20, x337001_63, x337002_53, x337003_25, t364, 0, t365, t366)) = some (r1, r2, r3, r4, r5, r6, r7, r8) := H
              have A87 := am_ A870
              clear A870
              simp only [Option.some.injEq, Prod.mk.injEq] at H
              obtain ⟨rfl, rfl, rfl, rfl, rfl, rfl, rfl, rfl⟩ := H
              go_wp2_with (first | ((with_reducible refine gl_ 76 rfl ?_); refine goesM_ (some 50) Try.func76 #[.pointer (some ⟨g, 0, none⟩), .int .i64 20] ?_; (with_reducible refine (spec_l1Cur_pick.calls g s0_0 x1001_63 x1002_63 20 t358 t359 t360 w0 _ ?side1 ?side2 A86.out).mono ?_); (case side1 => repeat (first | (with_reducible first | exact HI0.out | apply IsS68.alloc | apply IsS68.drewN | apply IsS68.drew | apply IsS68.set_1 | apply IsS68.set_2 | refine IsS68.far ?_ NB0_329.out _ | refine IsS68.far ?_ NB0_336.out _) | exact HI0.out)); (case side2 => repeat (first | (with_reducible first | exact HB.out | apply below_alloc | apply pw_below_drewN | apply below_drew1 | refine below_set ?_ (IsS68.ge HI0.out) | refine below_set ?_ GE329.out | refine below_set ?_ GE336.out) | exact HB.out)); rintro e w88 ⟨rfl, hi, hb, hk⟩; refine ⟨_, rfl, ?_⟩; replace BK329 := am_ (KeepBut.blk hk (g' := gb329) (o := .cells #[.int .i64 0, .int .i64 0, .int .i64 0, .int .i64 0, .int .i64 0, .int .i64 0] 51 (0, 0)) (bk_ BK329.out) NB329_0.out (by simp)); replace BK336 := am_ (KeepBut.blk hk (g' := gb336) (o := .cells #[.int .i64 x337000_20, .int .i64 x337001_63, .int .i64 x337002_53, .int .i64 x337003_25, .int .i64 0, .int .i64 0] 51 (0, 0)) (bk_ BK336.out) NB336_0.out (by simp)); replace HK := am_ (KeepBut.trans y3_ hk (.inl rfl)); replace HB := am_ (hb); replace HI0 := am_ (hi); (try clear hb); (try clear hk); (try clear hi)) | ((with_reducible refine gate_dst (N := 51) rfl ?_); refine Kd.R_lit (Kd.int .i64) _ 3 ?hg (N := 51) ?hd (xs := ([0, 1, 3, 7, 255, t358] : List Int)) (inner := [.int .i64 0, .int .i64 1, .int .i64 3, .int .i64 7, .int .i64 255, .int .i64 t358]) (ok := fun _ => True) (okp := fun _ => True) ?hr ?hp (fun _ hk => hk) trivial (Below.refl _ _) (Nat.le_refl _) (by simp) ?_; (case hd => rfl); (case hg => rfl); (case hr => first | (go_simp; done) | (go_simp; rfl)); (case hp => exact (Reps.one (show Kd.M (Kd.int .i64) _ _ _ 0 [.int .i64 0] from rfl) (Reps.one (show Kd.M (Kd.int .i64) _ _ _ 1 [.int .i64 1] from rfl) (Reps.one (show Kd.M (Kd.int .i64) _ _ _ 3 [.int .i64 3] from rfl) (Reps.one (show Kd.M (Kd.int .i64) _ _ _ 7 [.int .i64 7] from rfl) (Reps.one (show Kd.M (Kd.int .i64) _ _ _ 255 [.int .i64 255] from rfl) (Reps.one (show Kd.M (Kd.int .i64) _ _ _ t358 [.int .i64 t358] from rfl) (Reps.none _ _)))))))); intro v362 w89 ho90 hb hg_ hnew_; clear hg_ hnew_; (first | rw [← Ny361.out] at ho90 | (simp only [Int.reduceToNat] at ho90; rw [← Ny361.out] at ho90)); have HO363 := am_ (Kd.R_lower ho90 (keep_size (w := w) (g := g) (row := none) y3_)); replace BK329 := bb_ BK329 hb; replace BK336 := bb_ BK336 hb; replace HK := am_ (KeepBut.trans y3_ (KeepBut.of_below hb g none) (.inl rfl)); replace HB := am_ (below_step y1_ hb); replace HI0 := am_ (IsS68.below y0_ hb); clear hb ho90; obtain ⟨Ao91, co91, eo91⟩ := Kd.R_slice HO363.out; subst eo91) | ((with_reducible refine gl_ 79 rfl ?_); refine goesM_ (some 52) Try.func79 #[.pointer (some ⟨g, 0, none⟩), .slice Ao91 y361.length co91] ?_; (with_reducible refine (spec_l1Cur_among.calls g s0_0 t359 t360 _ _ y361 t364 t365 t366 w0 _ ?side1 ?side2 ?side3 ?side4 ?side5 A87.out).mono ?_); (case side1 => repeat (first | (with_reducible first | exact HI0.out | apply IsS68.alloc | apply IsS68.drewN | apply IsS68.drew | apply IsS68.set_1 | apply IsS68.set_2 | refine IsS68.far ?_ NB0_329.out _ | refine IsS68.far ?_ NB0_336.out _) | exact HI0.out)); (case side2 => repeat (first | (with_reducible first | exact HB.out | apply below_alloc | apply pw_below_drewN | apply below_drew1 | refine below_set ?_ (IsS68.ge HI0.out) | refine below_set ?_ GE329.out | refine below_set ?_ GE336.out) | exact HB.out)); (case side3 => exact cm_ (Kd.R_reads' HO363.out).2.2); (case side4 => exact (Kd.R_reads' HO363.out).2.1); (case side5 => exact far_slice (IsS68.own_ne HI0.out HO363.out (by decide))); rintro e w92 ⟨rfl, hi, hb, hk⟩; refine ⟨_, rfl, ?_⟩; replace BK329 := am_ (KeepBut.blk hk (g' := gb329) (o := .cells #[.int .i64 0, .int .i64 0, .int .i64 0, .int .i64 0, .int .i64 0, .int .i64 0] 51 (0, 0)) (bk_ BK329.out) NB329_0.out (by simp)); replace BK336 := am_ (KeepBut.blk hk (g' := gb336) (o := .cells #[.int .i64 x337000_20, .int .i64 x337001_63, .int .i64 x337002_53, .int .i64 x337003_25, .int .i64 0, .int .i64 0] 51 (0, 0)) (bk_ BK336.out) NB336_0.out (by simp)); replace HO363 := am_ (Kd.R_mono (Kd.R_keep (IsS68.apart (show IsS68 w0 _ g s0_0 t359 t360 from by repeat (first | (with_reducible first | exact HI0.out | apply IsS68.alloc | apply IsS68.drewN | apply IsS68.drew | apply IsS68.set_1 | apply IsS68.set_2 | refine IsS68.far ?_ NB0_329.out _ | refine IsS68.far ?_ NB0_336.out _) | exact HI0.out)) (rq_ HO363.out) (by decide)) hk (fun _ h => h.2)) (fun _ h => h.1)); replace HK := am_ (KeepBut.trans y3_ hk (.inl rfl)); replace HB := am_ (hb); replace HI0 := am_ (hi); (try clear hb); (try clear hk); (try clear hi); have hnb93 := NB336_329.out; have hnc93 := NB329_336.out; have hnb94 := NB336_0.out; have hnc94 := NB0_336.out; have hcz95_0 := cq_ BK336.out 0 (.int .i64 x337000_20); have hcz95_1 := cq_ BK336.out 1 (.int .i64 x337001_63); have hcz95_2 := cq_ BK336.out 2 (.int .i64 x337002_53); have hcz95_3 := cq_ BK336.out 3 (.int .i64 x337003_25); have hcz95_4 := cq_ BK336.out 4 (.int .i64 0); have hcz95_5 := cq_ BK336.out 5 (.int .i64 0); have hfz95_0 := blk_frozen BK336.out 0; have hfz95_1 := blk_frozen BK336.out 1; have hfz95_2 := blk_frozen BK336.out 2; have hfz95_3 := blk_frozen BK336.out 3; have hfz95_4 := blk_frozen BK336.out 4; have hfz95_5 := blk_frozen BK336.out 5; have hnb96 := NB329_0.out; have hnc96 := NB0_329.out; have hcz97_0 := cq_ BK329.out 0 (.int .i64 0); have hcz97_1 := cq_ BK329.out 1 (.int .i64 0); have hcz97_2 := cq_ BK329.out 2 (.int .i64 0); have hcz97_3 := cq_ BK329.out 3 (.int .i64 0); have hcz97_4 := cq_ BK329.out 4 (.int .i64 0); have hcz97_5 := cq_ BK329.out 5 (.int .i64 0); have hfz97_0 := blk_frozen BK329.out 0; have hfz97_1 := blk_frozen BK329.out 1; have hfz97_2 := blk_frozen BK329.out 2; have hfz97_3 := blk_frozen BK329.out 3; have hfz97_4 := blk_frozen BK329.out 4; have hfz97_5 := blk_frozen BK329.out 5))
              refine bodyPost_ret (results_cell_row rfl _ _ gb329 51 #[.int .i64 x337000_20, .int .i64 x337001_63, .int .i64 x337002_53, .int .i64 x337003_25, .int .i64 t364, .int .i64 0] (0, 0) _ rfl (bu_ BK329.out) Try.underlying51 rfl (by kernel_rfl)) rfl ?_
              exact ⟨by first | rfl | (simp [errW_none, errW_some] <;> rfl) | (simp [*, errW_none, errW_some] <;> rfl), by repeat (first | (with_reducible first | exact HI0.out | apply IsS68.alloc | apply IsS68.drewN | apply IsS68.drew | apply IsS68.set_1 | apply IsS68.set_2 | refine IsS68.far ?_ NB0_329.out _ | refine IsS68.far ?_ NB0_336.out _) | exact HI0.out), by repeat (first | (with_reducible first | exact HB.out | apply below_alloc | apply pw_below_drewN | apply below_drew1 | refine below_set ?_ (IsS68.ge HI0.out) | refine below_set ?_ GE329.out | refine below_set ?_ GE336.out) | exact HB.out), by repeat (first | (with_reducible first | exact HK.out | apply KeepBut.set_ | apply keep_drewN | apply keep_drew | apply keep_alloc | refine keep_far ?_ GW329.out _ | refine keep_far ?_ GW336.out _) | exact HK.out)⟩
             ·replace c85 := Bool.eq_false_iff.mpr c85
              subst c85
              have H1 : (if x337000_20 = 4 then ((spec_l1Cur_pick.f s0_0 x1001_63 x1002_63 256).bind fun bt367 => ((spec_l1Cur_pick.f s0_0 bt367.2.1 bt367.2.2 250).bind fun bt370 => ((spec_l1Cur_among.f s0_0 bt370.2.1 bt370.2.2 (([256, 65535, wrap64 (256 + (wrap64 (bt367.1 * bt370.1)))] : List Int))).bind fun bt376 => (some (x337000_20, x337001_63, x337002_53, x337003_25, bt376.1, 0, bt376.2.1, bt376.2.2))))) else (if x337000_20 = 5 then ((spec_l1Cur_pick.f s0_0 x1001_63 x1002_63 5).bind fun bt379 => (some (x337000_20, x337001_63, x337002_53, x337003_25, bt379.1, 0, bt379.2.1, bt379.2.2))) else (if x337000_20 = 6 then (spec_l1Cur_step.j6 kj79 a1 x337000_20 (x337000_20 == 6) s0_0 x1001_63 x1002_63 x337000_20 x337001_63 x337002_53 x337003_25 0 0) else (spec_l1Cur_step.j6 kj79 a1 x337000_20 (x337000_20 == 7) s0_0 x1001_63 x1002_63 x337000_20 x337001_63 x337002_53 x337003_25 0 0)))) = some (r1, r2, r3, r4, r5, r6, r7, r8) := by rw [if_neg (show ¬ (false = true) by decide)] at H; exact H
              clear H
              have H := H1
              clear H1
              by_cases c98 : x337000_20 = 4
              ·rw [if_pos c98] at H
               have c98b0 : (x337000_20 == 4) = true := beq_iff_eq.mpr c98
               have c98b1 : (x337000_20 != 4) = false := bne_eq_false_iff_eq.mpr c98
               clear c98
               replace H := Option.bind_eq_some_iff.mp H
               obtain ⟨⟨t367, t368, t369⟩, A990, H⟩ := H
               replace H : ((spec_l1Cur_pick.f s0_0 t368 t369 250).bind fun bt370 => ((spec_l1Cur_among.f s0_0 bt370.2.1 bt370.2.2 (([256, 65535, wrap64 (256 + (wrap64 (t367 * bt370.1)))] : List Int))).bind fun bt376 => (some (x337000_20, x337001_63, x337002_53, x337003_25, bt376.1, 0, bt376.2.1, bt376.2.2)))) = some (r1, r2, r3, r4, r5, r6, r7, r8) := H
               have A99 := am_ A990
               clear A990
               replace H := Option.bind_eq_some_iff.mp H
               obtain ⟨⟨t370, t371, t372⟩, A1000, H⟩ := H
               replace H : ((spec_l1Cur_among.f s0_0 t371 t372 (([256, 65535, wrap64 (256 + (wrap64 (t367 * t370)))] : List Int))).bind fun bt376 => (some (x337000_20, x337001_63, x337002_53, x337003_25, bt376.1, 0, bt376.2.1, bt376.2.2))) = some (r1, r2, r3, r4, r5, r6, r7, r8) := H
               have A100 := am_ A1000
               clear A1000
               obtain ⟨y373, hy373⟩ : ∃ y_ : List Int, y_ = (([256, 65535, wrap64 (256 + (wrap64 (t367 * t370)))] : List Int)) := ⟨_, rfl⟩
               replace H : ((spec_l1Cur_among.f s0_0 t371 t372 y373).bind fun bt376 => (some (x337000_20, x337001_63, x337002_53, x337003_25, bt376.1, 0, bt376.2.1, bt376.2.2))) = some (r1, r2, r3, r4, r5, r6, r7, r8) := by first | (rw [hy373]; with_reducible exact H) | (have H2_ := (Option.bind_some _ _).symm.trans H; rw [hy373]; with_reducible exact H2_) | (have H2_ := (Option.bind_some _ _).symm.trans H; with_reducible exact H2_) | with_reducible exact H | (rw [hy373]; exact H) | exact H
               have Ny373 := am_ hy373
               clear hy373
               replace H := Option.bind_eq_some_iff.mp H
               obtain ⟨⟨t376, t377, t378⟩, A1010, H⟩ := H
               replace H : (some (x337000_20, x337001_63, x337002_53, x337003_25, t376, 0, t377, t378)) = some (r1, r2, r3, r4, r5, r6, r7, r8) := H
               have A101 := am_ A1010
               clear A1010
               simp only [Option.some.injEq, Prod.mk.injEq] at H
               obtain ⟨rfl, rfl, rfl, rfl, rfl, rfl, rfl, rfl⟩ := H
               go_wp2_with (first | ((with_reducible refine gl_ 76 rfl ?_); refine goesM_ (some 58) Try.func76 #[.pointer (some ⟨g, 0, none⟩), .int .i64 256] ?_; (with_reducible refine (spec_l1Cur_pick.calls g s0_0 x1001_63 x1002_63 256 t367 t368 t369 w0 _ ?side1 ?side2 A99.out).mono ?_); (case side1 => repeat (first | (with_reducible first | exact HI0.out | apply IsS68.alloc | apply IsS68.drewN | apply IsS68.drew | apply IsS68.set_1 | apply IsS68.set_2 | refine IsS68.far ?_ NB0_329.out _ | refine IsS68.far ?_ NB0_336.out _) | exact HI0.out)); (case side2 => repeat (first | (with_reducible first | exact HB.out | apply below_alloc | apply pw_below_drewN | apply below_drew1 | refine below_set ?_ (IsS68.ge HI0.out) | refine below_set ?_ GE329.out | refine below_set ?_ GE336.out) | exact HB.out)); rintro e w102 ⟨rfl, hi, hb, hk⟩; refine ⟨_, rfl, ?_⟩; replace BK329 := am_ (KeepBut.blk hk (g' := gb329) (o := .cells #[.int .i64 0, .int .i64 0, .int .i64 0, .int .i64 0, .int .i64 0, .int .i64 0] 51 (0, 0)) (bk_ BK329.out) NB329_0.out (by simp)); replace BK336 := am_ (KeepBut.blk hk (g' := gb336) (o := .cells #[.int .i64 x337000_20, .int .i64 x337001_63, .int .i64 x337002_53, .int .i64 x337003_25, .int .i64 0, .int .i64 0] 51 (0, 0)) (bk_ BK336.out) NB336_0.out (by simp)); replace HK := am_ (KeepBut.trans y3_ hk (.inl rfl)); replace HB := am_ (hb); replace HI0 := am_ (hi); (try clear hb); (try clear hk); (try clear hi)) | ((with_reducible refine gl_ 76 rfl ?_); refine goesM_ (some 60) Try.func76 #[.pointer (some ⟨g, 0, none⟩), .int .i64 250] ?_; (with_reducible refine (spec_l1Cur_pick.calls g s0_0 t368 t369 250 t370 t371 t372 w0 _ ?side1 ?side2 A100.out).mono ?_); (case side1 => repeat (first | (with_reducible first | exact HI0.out | apply IsS68.alloc | apply IsS68.drewN | apply IsS68.drew | apply IsS68.set_1 | apply IsS68.set_2 | refine IsS68.far ?_ NB0_329.out _ | refine IsS68.far ?_ NB0_336.out _) | exact HI0.out)); (case side2 => repeat (first | (with_reducible first | exact HB.out | apply below_alloc | apply pw_below_drewN | apply below_drew1 | refine below_set ?_ (IsS68.ge HI0.out) | refine below_set ?_ GE329.out | refine below_set ?_ GE336.out) | exact HB.out)); rintro e w103 ⟨rfl, hi, hb, hk⟩; refine ⟨_, rfl, ?_⟩; replace BK329 := am_ (KeepBut.blk hk (g' := gb329) (o := .cells #[.int .i64 0, .int .i64 0, .int .i64 0, .int .i64 0, .int .i64 0, .int .i64 0] 51 (0, 0)) (bk_ BK329.out) NB329_0.out (by simp)); replace BK336 := am_ (KeepBut.blk hk (g' := gb336) (o := .cells #[.int .i64 x337000_20, .int .i64 x337001_63, .int .i64 x337002_53, .int .i64 x337003_25, .int .i64 0, .int .i64 0] 51 (0, 0)) (bk_ BK336.out) NB336_0.out (by simp)); replace HK := am_ (KeepBut.trans y3_ hk (.inl rfl)); replace HB := am_ (hb); replace HI0 := am_ (hi); (try clear hb); (try clear hk); (try clear hi)) | ((with_reducible refine gate_dst (N := 63) rfl ?_); refine Kd.R_lit (Kd.int .i64) _ 3 ?hg (N := 63) ?hd (xs := ([256, 65535, wrap64 (256 + (wrap64 (t367 * t370)))] : List Int)) (inner := [.int .i64 256, .int .i64 65535, .int .i64 (wrap64 (256 + (wrap64 (t367 * t370))))]) (ok := fun _ => True) (okp := fun _ => True) ?hr ?hp (fun _ hk => hk) trivial (Below.refl _ _) (Nat.le_refl _) (by simp) ?_; (case hd => rfl); (case hg => rfl); (case hr => first | (go_simp; done) | (go_simp; rfl)); (case hp => exact (Reps.one (show Kd.M (Kd.int .i64) _ _ _ 256 [.int .i64 256] from rfl) (Reps.one (show Kd.M (Kd.int .i64) _ _ _ 65535 [.int .i64 65535] from rfl) (Reps.one (show Kd.M (Kd.int .i64) _ _ _ (wrap64 (256 + (wrap64 (t367 * t370)))) [.int .i64 (wrap64 (256 + (wrap64 (t367 * t370))))] from rfl) (Reps.none _ _))))); intro v374 w104 ho105 hb hg_ hnew_; clear hg_ hnew_; (first | rw [← Ny373.out] at ho105 | (simp only [Int.reduceToNat] at ho105; rw [← Ny373.out] at ho105)); have HO375 := am_ (Kd.R_lower ho105 (keep_size (w := w) (g := g) (row := none) y3_)); replace BK329 := bb_ BK329 hb; replace BK336 := bb_ BK336 hb; replace HK := am_ (KeepBut.trans y3_ (KeepBut.of_below hb g none) (.inl rfl)); replace HB := am_ (below_step y1_ hb); replace HI0 := am_ (IsS68.below y0_ hb); clear hb ho105; obtain ⟨Ao106, co106, eo106⟩ := Kd.R_slice HO375.out; subst eo106) | ((with_reducible refine gl_ 79 rfl ?_); refine goesM_ (some 64) Try.func79 #[.pointer (some ⟨g, 0, none⟩), .slice Ao106 y373.length co106] ?_; (with_reducible refine (spec_l1Cur_among.calls g s0_0 t371 t372 _ _ y373 t376 t377 t378 w0 _ ?side1 ?side2 ?side3 ?side4 ?side5 A101.out).mono ?_); (case side1 => repeat (first | (with_reducible first | exact HI0.out | apply IsS68.alloc | apply IsS68.drewN | apply IsS68.drew | apply IsS68.set_1 | apply IsS68.set_2 | refine IsS68.far ?_ NB0_329.out _ | refine IsS68.far ?_ NB0_336.out _) | exact HI0.out)); (case side2 => repeat (first | (with_reducible first | exact HB.out | apply below_alloc | apply pw_below_drewN | apply below_drew1 | refine below_set ?_ (IsS68.ge HI0.out) | refine below_set ?_ GE329.out | refine below_set ?_ GE336.out) | exact HB.out)); (case side3 => exact cm_ (Kd.R_reads' HO375.out).2.2); (case side4 => exact (Kd.R_reads' HO375.out).2.1); (case side5 => exact far_slice (IsS68.own_ne HI0.out HO375.out (by decide))); rintro e w107 ⟨rfl, hi, hb, hk⟩; refine ⟨_, rfl, ?_⟩; replace BK329 := am_ (KeepBut.blk hk (g' := gb329) (o := .cells #[.int .i64 0, .int .i64 0, .int .i64 0, .int .i64 0, .int .i64 0, .int .i64 0] 51 (0, 0)) (bk_ BK329.out) NB329_0.out (by simp)); replace BK336 := am_ (KeepBut.blk hk (g' := gb336) (o := .cells #[.int .i64 x337000_20, .int .i64 x337001_63, .int .i64 x337002_53, .int .i64 x337003_25, .int .i64 0, .int .i64 0] 51 (0, 0)) (bk_ BK336.out) NB336_0.out (by simp)); replace HO375 := am_ (Kd.R_mono (Kd.R_keep (IsS68.apart (show IsS68 w0 _ g s0_0 t371 t372 from by repeat (first | (with_reducible first | exact HI0.out | apply IsS68.alloc | apply IsS68.drewN | apply IsS68.drew | apply IsS68.set_1 | apply IsS68.set_2 | refine IsS68.far ?_ NB0_329.out _ | refine IsS68.far ?_ NB0_336.out _) | exact HI0.out)) (rq_ HO375.out) (by decide)) hk (fun _ h => h.2)) (fun _ h => h.1)); replace HK := am_ (KeepBut.trans y3_ hk (.inl rfl)); replace HB := am_ (hb); replace HI0 := am_ (hi); (try clear hb); (try clear hk); (try clear hi); have hnb108 := NB336_329.out; have hnc108 := NB329_336.out; have hnb109 := NB336_0.out; have hnc109 := NB0_336.out; have hcz110_0 := cq_ BK336.out 0 (.int .i64 x337000_20); have hcz110_1 := cq_ BK336.out 1 (.int .i64 x337001_63); have hcz110_2 := cq_ BK336.out 2 (.int .i64 x337002_53); have hcz110_3 := cq_ BK336.out 3 (.int .i64 x337003_25); have hcz110_4 := cq_ BK336.out 4 (.int .i64 0); have hcz110_5 := cq_ BK336.out 5 (.int .i64 0); have hfz110_0 := blk_frozen BK336.out 0; have hfz110_1 := blk_frozen BK336.out 1; have hfz110_2 := blk_frozen BK336.out 2; have hfz110_3 := blk_frozen BK336.out 3; have hfz110_4 := blk_frozen BK336.out 4; have hfz110_5 := blk_frozen BK336.out 5; have hnb111 := NB329_0.out; have hnc111 := NB0_329.out; have hcz112_0 := cq_ BK329.out 0 (.int .i64 0); have hcz112_1 := cq_ BK329.out 1 (.int .i64 0); have hcz112_2 := cq_ BK329.out 2 (.int .i64 0); have hcz112_3 := cq_ BK329.out 3 (.int .i64 0); have hcz112_4 := cq_ BK329.out 4 (.int .i64 0); have hcz112_5 := cq_ BK329.out 5 (.int .i64 0); have hfz112_0 := blk_frozen BK329.out 0; have hfz112_1 := blk_frozen BK329.out 1; have hfz112_2 := blk_frozen BK329.out 2; have hfz112_3 := blk_frozen BK329.out 3; have hfz112_4 := blk_frozen BK329.out 4; have hfz112_5 := blk_frozen BK329.out 5))
               refine bodyPost_ret (results_cell_row rfl _ _ gb329 51 #[.int .i64 x337000_20, .int .i64 x337001_63, .int .i64 x337002_53, .int .i64 x337003_25, .int .i64 t376, .int .i64 0] (0, 0) _ rfl (bu_ BK329.out) Try.underlying51 rfl (by kernel_rfl)) rfl ?_
               exact ⟨by first | rfl | (simp [errW_none, errW_some] <;> rfl) | (simp [*, errW_none, errW_some] <;> rfl), by repeat (first | (with_reducible first | exact HI0.out | apply IsS68.alloc | apply IsS68.drewN | apply IsS68.drew | apply IsS68.set_1 | apply IsS68.set_2 | refine IsS68.far ?_ NB0_329.out _ | refine IsS68.far ?_ NB0_336.out _) | exact HI0.out), by repeat (first | (with_reducible first | exact HB.out | apply below_alloc | apply pw_below_drewN | apply below_drew1 | refine below_set ?_ (IsS68.ge HI0.out) | refine below_set ?_ GE329.out | refine below_set ?_ GE336.out) | exact HB.out), by repeat (first | (with_reducible first | exact HK.out | apply KeepBut.set_ | apply keep_drewN | apply keep_drew | apply keep_alloc | refine keep_far ?_ GW329.out _ | refine keep_far ?_ GW336.out _) | exact HK.out)⟩
              ·rw [if_neg c98] at H
               have c98b0 : (x337000_20 == 4) = false := beq_eq_false_iff_ne.mpr c98
               have c98b1 : (x337000_20 != 4) = true := bne_iff_ne.mpr c98
               by_cases c113 : x337000_20 = 5
               ·rw [if_pos c113] at H
                have c113b0 : (x337000_20 == 5) = true := beq_iff_eq.mpr c113
                have c113b1 : (x337000_20 != 5) = false := bne_eq_false_iff_eq.mpr c113
                clear c113
                replace H := Option.bind_eq_some_iff.mp H
                obtain ⟨⟨t379, t380, t381⟩, A1140, H⟩ := H
                replace H : (some (x337000_20, x337001_63, x337002_53, x337003_25, t379, 0, t380, t381)) = some (r1, r2, r3, r4, r5, r6, r7, r8) := H
                have A114 := am_ A1140
                clear A1140
                simp only [Option.some.injEq, Prod.mk.injEq] at H
                obtain ⟨rfl, rfl, rfl, rfl, rfl, rfl, rfl, rfl⟩ := H
                go_wp2_with (first | ((with_reducible refine gl_ 76 rfl ?_); refine goesM_ (some 69) Try.func76 #[.pointer (some ⟨g, 0, none⟩), .int .i64 5] ?_; (with_reducible refine (spec_l1Cur_pick.calls g s0_0 x1001_63 x1002_63 5 t379 t380 t381 w0 _ ?side1 ?side2 A114.out).mono ?_); (case side1 => repeat (first | (with_reducible first | exact HI0.out | apply IsS68.alloc | apply IsS68.drewN | apply IsS68.drew | apply IsS68.set_1 | apply IsS68.set_2 | refine IsS68.far ?_ NB0_329.out _ | refine IsS68.far ?_ NB0_336.out _) | exact HI0.out)); (case side2 => repeat (first | (with_reducible first | exact HB.out | apply below_alloc | apply pw_below_drewN | apply below_drew1 | refine below_set ?_ (IsS68.ge HI0.out) | refine below_set ?_ GE329.out | refine below_set ?_ GE336.out) | exact HB.out)); rintro e w115 ⟨rfl, hi, hb, hk⟩; refine ⟨_, rfl, ?_⟩; replace BK329 := am_ (KeepBut.blk hk (g' := gb329) (o := .cells #[.int .i64 0, .int .i64 0, .int .i64 0, .int .i64 0, .int .i64 0, .int .i64 0] 51 (0, 0)) (bk_ BK329.out) NB329_0.out (by simp)); replace BK336 := am_ (KeepBut.blk hk (g' := gb336) (o := .cells #[.int .i64 x337000_20, .int .i64 x337001_63, .int .i64 x337002_53, .int .i64 x337003_25, .int .i64 0, .int .i64 0] 51 (0, 0)) (bk_ BK336.out) NB336_0.out (by simp)); replace HK := am_ (KeepBut.trans y3_ hk (.inl rfl)); replace HB := am_ (hb); replace HI0 := am_ (hi); (try clear hb); (try clear hk); (try clear hi); have hnb116 := NB336_329.out; have hnc116 := NB329_336.out; have hnb117 := NB336_0.out; have hnc117 := NB0_336.out; have hcz118_0 := cq_ BK336.out 0 (.int .i64 x337000_20); have hcz118_1 := cq_ BK336.out 1 (.int .i64 x337001_63); have hcz118_2 := cq_ BK336.out 2 (.int .i64 x337002_53); have hcz118_3 := cq_ BK336.out 3 (.int .i64 x337003_25); have hcz118_4 := cq_ BK336.out 4 (.int .i64 0); have hcz118_5 := cq_ BK336.out 5 (.int .i64 0); have hfz118_0 := blk_frozen BK336.out 0; have hfz118_1 := blk_frozen BK336.out 1; have hfz118_2 := blk_frozen BK336.out 2; have hfz118_3 := blk_frozen BK336.out 3; have hfz118_4 := blk_frozen BK336.out 4; have hfz118_5 := blk_frozen BK336.out 5; have hnb119 := NB329_0.out; have hnc119 := NB0_329.out; have hcz120_0 := cq_ BK329.out 0 (.int .i64 0); have hcz120_1 := cq_ BK329.out 1 (.int .i64 0); have hcz120_2 := cq_ BK329.out 2 (.int .i64 0); have hcz120_3 := cq_ BK329.out 3 (.int .i64 0); have hcz120_4 := cq_ BK329.out 4 (.int .i64 0); have hcz120_5 := cq_ BK329.out 5 (.int .i64 0); have hfz120_0 := blk_frozen BK329.out 0; have hfz120_1 := blk_frozen BK329.out 1; have hfz120_2 := blk_frozen BK329.out 2; have hfz120_3 := blk_frozen BK329.out 3; have hfz120_4 := blk_frozen BK329.out 4; have hfz120_5 := blk_frozen BK329.out 5))
                refine bodyPost_ret (results_cell_row rfl _ _ gb329 51 #[.int .i64 x337000_20, .int .i64 x337001_63, .int .i64 x337002_53, .int .i64 x337003_25, .int .i64 t379, .int .i64 0] (0, 0) _ rfl (bu_ BK329.out) Try.underlying51 rfl (by kernel_rfl)) rfl ?_
                exact ⟨by first | rfl | (simp [errW_none, errW_some] <;> rfl) | (simp [*, errW_none, errW_some] <;> rfl), by repeat (first | (with_reducible first | exact HI0.out | apply IsS68.alloc | apply IsS68.drewN | apply IsS68.drew | apply IsS68.set_1 | apply IsS68.set_2 | refine IsS68.far ?_ NB0_329.out _ | refine IsS68.far ?_ NB0_336.out _) | exact HI0.out), by repeat (first | (with_reducible first | exact HB.out | apply below_alloc | apply pw_below_drewN | apply below_drew1 | refine below_set ?_ (IsS68.ge HI0.out) | refine below_set ?_ GE329.out | refine below_set ?_ GE336.out) | exact HB.out), by repeat (first | (with_reducible first | exact HK.out | apply KeepBut.set_ | apply keep_drewN | apply keep_drew | apply keep_alloc | refine keep_far ?_ GW329.out _ | refine keep_far ?_ GW336.out _) | exact HK.out)⟩
               ·rw [if_neg c113] at H
                have c113b0 : (x337000_20 == 5) = false := beq_eq_false_iff_ne.mpr c113
                have c113b1 : (x337000_20 != 5) = true := bne_iff_ne.mpr c113
                have HC121 := am_ H
                clear H
                go_upto_if 71 with (fail)
                go_cut [71] (fun v71 wc => ∃ (kq : Nat) (x71_120 : Bool), v71 = .bool x71_120 ∧ Aside0 (spec_l1Cur_step.j6 kq a1 x337000_20 x71_120 s0_0 x1001_63 x1002_63 x337000_20 x337001_63 x337002_53 x337003_25 0 0 = some (r1, r2, r3, r4, r5, r6, r7, r8)) ∧ Aside0 (kq ≤ kj79) ∧ Aside0 (wc.heap[gb329]? = some (.cells #[.int .i64 0, .int .i64 0, .int .i64 0, .int .i64 0, .int .i64 0, .int .i64 0] 51 (0, 0))) ∧ Aside0 (wc.heap[gb336]? = some (.cells #[.int .i64 x337000_20, .int .i64 x337001_63, .int .i64 x337002_53, .int .i64 x337003_25, .int .i64 0, .int .i64 0] 51 (0, 0))) ∧ Aside0 (IsS68 w0 wc g s0_0 x1001_63 x1002_63) ∧ Aside0 (KeepBut w wc g none) ∧ Aside0 (Below w0.heap.size w0 wc))
                case first =>
                 have H := HC121.out
                 clear HC121
                 by_cases c122 : x337000_20 = 6
                 ·rw [if_pos c122] at H
                  have c122b0 : (x337000_20 == 6) = true := beq_iff_eq.mpr c122
                  have c122b1 : (x337000_20 != 6) = false := bne_eq_false_iff_eq.mpr c122
                  clear c122
                  (first | rw [c122b0] | (simp only [i64_w, i32_w]; rw [c122b0]) | skip)
                  have H' := am_ H
                  clear H
                  go_wp2
                  go_meet
                  case rel => exact ⟨_, ((x337000_20 == 6)), y14_, H', ⟨by have := HJ3.out; have := HJ20.out; have := HJ25.out; have := HJ53.out; have := HJ63.out; have := HJ79.out; first | omega | exact Nat.le_refl _⟩, ⟨bk_ BK329.out⟩, ⟨bk_ BK336.out⟩, ⟨by repeat (first | (with_reducible first | exact HI0.out | apply IsS68.alloc | apply IsS68.drewN | apply IsS68.drew | apply IsS68.set_1 | apply IsS68.set_2 | refine IsS68.far ?_ NB0_329.out _ | refine IsS68.far ?_ NB0_336.out _) | exact HI0.out)⟩, ⟨by repeat (first | (with_reducible first | exact HK.out | apply KeepBut.set_ | apply keep_drewN | apply keep_drew | apply keep_alloc | refine keep_far ?_ GW329.out _ | refine keep_far ?_ GW336.out _) | exact HK.out)⟩, ⟨by repeat (first | (with_reducible first | exact HB.out | apply below_alloc | apply pw_below_drewN | apply below_drew1 | refine below_set ?_ (IsS68.ge HI0.out) | refine below_set ?_ GE329.out | refine below_set ?_ GE336.out) | exact HB.out)⟩⟩
                 ·rw [if_neg c122] at H
                  have c122b0 : (x337000_20 == 6) = false := beq_eq_false_iff_ne.mpr c122
                  have c122b1 : (x337000_20 != 6) = true := bne_iff_ne.mpr c122
                  (first | rw [c122b0] | (simp only [i64_w, i32_w]; rw [c122b0]) | skip)
                  have H' := am_ H
                  clear H
                  go_wp2
                  go_meet
                  case rel => exact ⟨_, ((x337000_20 == 7)), y14_, H', ⟨by have := HJ3.out; have := HJ20.out; have := HJ25.out; have := HJ53.out; have := HJ63.out; have := HJ79.out; first | omega | exact Nat.le_refl _⟩, ⟨bk_ BK329.out⟩, ⟨bk_ BK336.out⟩, ⟨by repeat (first | (with_reducible first | exact HI0.out | apply IsS68.alloc | apply IsS68.drewN | apply IsS68.drew | apply IsS68.set_1 | apply IsS68.set_2 | refine IsS68.far ?_ NB0_329.out _ | refine IsS68.far ?_ NB0_336.out _) | exact HI0.out)⟩, ⟨by repeat (first | (with_reducible first | exact HK.out | apply KeepBut.set_ | apply keep_drewN | apply keep_drew | apply keep_alloc | refine keep_far ?_ GW329.out _ | refine keep_far ?_ GW336.out _) | exact HK.out)⟩, ⟨by repeat (first | (with_reducible first | exact HB.out | apply below_alloc | apply pw_below_drewN | apply below_drew1 | refine below_set ?_ (IsS68.ge HI0.out) | refine below_set ?_ GE329.out | refine below_set ?_ GE336.out) | exact HB.out)⟩⟩
                case rest =>
                 clear HC121
                 try clear c1
                 try clear c2
                 try clear p2
                 try clear c3
                 try clear c4
                 try clear c5
                 try clear c6
                 try clear p6
                 try clear c7
                 try clear c8
                 try clear c9
                 try clear c10
                 try clear c11
                 try clear c12
                 try clear c14
                 try clear c14b0
                 try clear c15
                 try clear c16
                 try clear c18
                 try clear c19
                 try clear c22
                 try clear c23
                 try clear c24
                 try clear c27
                 try clear c28
                 try clear c30
                 try clear c30b0
                 try clear c30b1
                 try clear c33
                 try clear c34
                 try clear c36
                 try clear c36b0
                 try clear c36b1
                 try clear c39
                 try clear c40
                 try clear c42
                 try clear c42b0
                 try clear c42b1
                 try clear c45
                 try clear c46
                 try clear c48
                 try clear c48b0
                 try clear c48b1
                 try clear c51
                 try clear c52
                 try clear c55
                 try clear c56
                 try clear c58
                 try clear c58b0
                 try clear c58b1
                 try clear c61
                 try clear c62
                 try clear p64
                 try clear c65
                 try clear c66
                 try clear c68
                 try clear c68b0
                 try clear c68b1
                 try clear c71
                 try clear c72
                 try clear c74
                 try clear c74b0
                 try clear c74b1
                 try clear c76
                 try clear c77
                 try clear c78
                 try clear c79
                 try clear c81
                 try clear c82
                 try clear c84
                 try clear c84b0
                 try clear c84b1
                 try clear c85
                 try clear c93
                 try clear c94
                 try clear c96
                 try clear c98
                 try clear c98b0
                 try clear c98b1
                 try clear c108
                 try clear c109
                 try clear c111
                 try clear c113
                 try clear c113b0
                 try clear c113b1
                 try clear c116
                 try clear c117
                 try clear c119
                 try clear c122
                 try clear c122b0
                 try clear c122b1
                 try clear hcz110_0
                 try clear hcz110_1
                 try clear hcz110_2
                 try clear hcz110_3
                 try clear hcz110_4
                 try clear hcz110_5
                 try clear hcz112_0
                 try clear hcz112_1
                 try clear hcz112_2
                 try clear hcz112_3
                 try clear hcz112_4
                 try clear hcz112_5
                 try clear hcz118_0
                 try clear hcz118_1
                 try clear hcz118_2
                 try clear hcz118_3
                 try clear hcz118_4
                 try clear hcz118_5
                 try clear hcz120_0
                 try clear hcz120_1
                 try clear hcz120_2
                 try clear hcz120_3
                 try clear hcz120_4
                 try clear hcz120_5
                 try clear hcz13_0
                 try clear hcz13_1
                 try clear hcz13_2
                 try clear hcz13_3
                 try clear hcz13_4
                 try clear hcz13_5
                 try clear hcz17_0
                 try clear hcz17_1
                 try clear hcz17_2
                 try clear hcz17_3
                 try clear hcz17_4
                 try clear hcz17_5
                 try clear hcz20_0
                 try clear hcz20_1
                 try clear hcz20_2
                 try clear hcz20_3
                 try clear hcz20_4
                 try clear hcz20_5
                 try clear hcz25_0
                 try clear hcz25_1
                 try clear hcz25_2
                 try clear hcz25_3
                 try clear hcz25_4
                 try clear hcz25_5
                 try clear hcz29_0
                 try clear hcz29_1
                 try clear hcz29_2
                 try clear hcz29_3
                 try clear hcz29_4
                 try clear hcz29_5
                 try clear hcz35_0
                 try clear hcz35_1
                 try clear hcz35_2
                 try clear hcz35_3
                 try clear hcz35_4
                 try clear hcz35_5
                 try clear hcz41_0
                 try clear hcz41_1
                 try clear hcz41_2
                 try clear hcz41_3
                 try clear hcz41_4
                 try clear hcz41_5
                 try clear hcz47_0
                 try clear hcz47_1
                 try clear hcz47_2
                 try clear hcz47_3
                 try clear hcz47_4
                 try clear hcz47_5
                 try clear hcz53_0
                 try clear hcz53_1
                 try clear hcz53_2
                 try clear hcz53_3
                 try clear hcz53_4
                 try clear hcz53_5
                 try clear hcz57_0
                 try clear hcz57_1
                 try clear hcz57_2
                 try clear hcz57_3
                 try clear hcz57_4
                 try clear hcz57_5
                 try clear hcz63_0
                 try clear hcz63_1
                 try clear hcz63_2
                 try clear hcz63_3
                 try clear hcz63_4
                 try clear hcz63_5
                 try clear hcz67_0
                 try clear hcz67_1
                 try clear hcz67_2
                 try clear hcz67_3
                 try clear hcz67_4
                 try clear hcz67_5
                 try clear hcz73_0
                 try clear hcz73_1
                 try clear hcz73_2
                 try clear hcz73_3
                 try clear hcz73_4
                 try clear hcz73_5
                 try clear hcz79_0
                 try clear hcz79_1
                 try clear hcz79_2
                 try clear hcz79_3
                 try clear hcz79_4
                 try clear hcz79_5
                 try clear hcz83_0
                 try clear hcz83_1
                 try clear hcz83_2
                 try clear hcz83_3
                 try clear hcz83_4
                 try clear hcz83_5
                 try clear hcz95_0
                 try clear hcz95_1
                 try clear hcz95_2
                 try clear hcz95_3
                 try clear hcz95_4
                 try clear hcz95_5
                 try clear hcz97_0
                 try clear hcz97_1
                 try clear hcz97_2
                 try clear hcz97_3
                 try clear hcz97_4
                 try clear hcz97_5
                 try clear hfz110_0
                 try clear hfz110_1
                 try clear hfz110_2
                 try clear hfz110_3
                 try clear hfz110_4
                 try clear hfz110_5
                 try clear hfz112_0
                 try clear hfz112_1
                 try clear hfz112_2
                 try clear hfz112_3
                 try clear hfz112_4
                 try clear hfz112_5
                 try clear hfz118_0
                 try clear hfz118_1
                 try clear hfz118_2
                 try clear hfz118_3
                 try clear hfz118_4
                 try clear hfz118_5
                 try clear hfz120_0
                 try clear hfz120_1
                 try clear hfz120_2
                 try clear hfz120_3
                 try clear hfz120_4
                 try clear hfz120_5
                 try clear hfz13_0
                 try clear hfz13_1
                 try clear hfz13_2
                 try clear hfz13_3
                 try clear hfz13_4
                 try clear hfz13_5
                 try clear hfz17_0
                 try clear hfz17_1
                 try clear hfz17_2
                 try clear hfz17_3
                 try clear hfz17_4
                 try clear hfz17_5
                 try clear hfz20_0
                 try clear hfz20_1
                 try clear hfz20_2
                 try clear hfz20_3
                 try clear hfz20_4
                 try clear hfz20_5
                 try clear hfz25_0
                 try clear hfz25_1
                 try clear hfz25_2
                 try clear hfz25_3
                 try clear hfz25_4
                 try clear hfz25_5
                 try clear hfz29_0
                 try clear hfz29_1
                 try clear hfz29_2
                 try clear hfz29_3
                 try clear hfz29_4
                 try clear hfz29_5
                 try clear hfz35_0
                 try clear hfz35_1
                 try clear hfz35_2
                 try clear hfz35_3
                 try clear hfz35_4
                 try clear hfz35_5
                 try clear hfz41_0
                 try clear hfz41_1
                 try clear hfz41_2
                 try clear hfz41_3
                 try clear hfz41_4
                 try clear hfz41_5
                 try clear hfz47_0
                 try clear hfz47_1
                 try clear hfz47_2
                 try clear hfz47_3
                 try clear hfz47_4
                 try clear hfz47_5
                 try clear hfz53_0
                 try clear hfz53_1
                 try clear hfz53_2
                 try clear hfz53_3
                 try clear hfz53_4
                 try clear hfz53_5
                 try clear hfz57_0
                 try clear hfz57_1
                 try clear hfz57_2
                 try clear hfz57_3
                 try clear hfz57_4
                 try clear hfz57_5
                 try clear hfz63_0
                 try clear hfz63_1
                 try clear hfz63_2
                 try clear hfz63_3
                 try clear hfz63_4
                 try clear hfz63_5
                 try clear hfz67_0
                 try clear hfz67_1
                 try clear hfz67_2
                 try clear hfz67_3
                 try clear hfz67_4
                 try clear hfz67_5
                 try clear hfz73_0
                 try clear hfz73_1
                 try clear hfz73_2
                 try clear hfz73_3
                 try clear hfz73_4
                 try clear hfz73_5
                 try clear hfz79_0
                 try clear hfz79_1
                 try clear hfz79_2
                 try clear hfz79_3
                 try clear hfz79_4
                 try clear hfz79_5
                 try clear hfz83_0
                 try clear hfz83_1
                 try clear hfz83_2
                 try clear hfz83_3
                 try clear hfz83_4
                 try clear hfz83_5
                 try clear hfz95_0
                 try clear hfz95_1
                 try clear hfz95_2
                 try clear hfz95_3
                 try clear hfz95_4
                 try clear hfz95_5
                 try clear hfz97_0
                 try clear hfz97_1
                 try clear hfz97_2
                 try clear hfz97_3
                 try clear hfz97_4
                 try clear hfz97_5
                 try clear p2
                 try clear p6
                 try clear p64
                 obtain ⟨kq, x71_120, rfl, HA, HJ120, BK329, BK336, HI0, HK, HB⟩ := hcut
                 cases kq with
                 | zero => exact absurd HA.out (by simp [spec_l1Cur_step.j6])
                 | succ kj120 =>
                  have H := HA.out
                  clear HA
                  simp only [spec_l1Cur_step.j6] at H
                  by_cases c123 : x71_120 = true
                  ·subst c123
                   have H1 : ((spec_l1Cur_pick.f s0_0 x1001_63 x1002_63 18).bind fun bt382 => (some (x337000_20, x337001_63, x337002_53, x337003_25, bt382.1, 0, bt382.2.1, bt382.2.2))) = some (r1, r2, r3, r4, r5, r6, r7, r8) := by rw [if_pos rfl] at H; exact H
                   clear H
                   have H := H1
                   clear H1
                   replace H := Option.bind_eq_some_iff.mp H
                   obtain ⟨⟨t382, t383, t384⟩, A1240, H⟩ := H
                   replace H : (some (x337000_20, x337001_63, x337002_53, x337003_25, t382, 0, t383, t384)) = some (r1, r2, r3, r4, r5, r6, r7, r8) := H
                   have A124 := am_ A1240
                   clear A1240
                   simp only [Option.some.injEq, Prod.mk.injEq] at H
                   obtain ⟨rfl, rfl, rfl, rfl, rfl, rfl, rfl, rfl⟩ := H
                   go_wp2_with (first | ((with_reducible refine gl_ 76 rfl ?_); refine goesM_ (some 75) Try.func76 #[.pointer (some ⟨g, 0, none⟩), .int .i64 18] ?_; (with_reducible refine (spec_l1Cur_pick.calls g s0_0 x1001_63 x1002_63 18 t382 t383 t384 w0 _ ?side1 ?side2 A124.out).mono ?_); (case side1 => repeat (first | (with_reducible first | exact HI0.out | apply IsS68.alloc | apply IsS68.drewN | apply IsS68.drew | apply IsS68.set_1 | apply IsS68.set_2 | refine IsS68.far ?_ NB0_329.out _ | refine IsS68.far ?_ NB0_336.out _) | exact HI0.out)); (case side2 => repeat (first | (with_reducible first | exact HB.out | apply below_alloc | apply pw_below_drewN | apply below_drew1 | refine below_set ?_ (IsS68.ge HI0.out) | refine below_set ?_ GE329.out | refine below_set ?_ GE336.out) | exact HB.out)); rintro e w125 ⟨rfl, hi, hb, hk⟩; refine ⟨_, rfl, ?_⟩; replace BK329 := am_ (KeepBut.blk hk (g' := gb329) (o := .cells #[.int .i64 0, .int .i64 0, .int .i64 0, .int .i64 0, .int .i64 0, .int .i64 0] 51 (0, 0)) (bk_ BK329.out) NB329_0.out (by simp)); replace BK336 := am_ (KeepBut.blk hk (g' := gb336) (o := .cells #[.int .i64 x337000_20, .int .i64 x337001_63, .int .i64 x337002_53, .int .i64 x337003_25, .int .i64 0, .int .i64 0] 51 (0, 0)) (bk_ BK336.out) NB336_0.out (by simp)); replace HK := am_ (KeepBut.trans y3_ hk (.inl rfl)); replace HB := am_ (hb); replace HI0 := am_ (hi); (try clear hb); (try clear hk); (try clear hi); have hnb126 := NB336_329.out; have hnc126 := NB329_336.out; have hnb127 := NB336_0.out; have hnc127 := NB0_336.out; have hcz128_0 := cq_ BK336.out 0 (.int .i64 x337000_20); have hcz128_1 := cq_ BK336.out 1 (.int .i64 x337001_63); have hcz128_2 := cq_ BK336.out 2 (.int .i64 x337002_53); have hcz128_3 := cq_ BK336.out 3 (.int .i64 x337003_25); have hcz128_4 := cq_ BK336.out 4 (.int .i64 0); have hcz128_5 := cq_ BK336.out 5 (.int .i64 0); have hfz128_0 := blk_frozen BK336.out 0; have hfz128_1 := blk_frozen BK336.out 1; have hfz128_2 := blk_frozen BK336.out 2; have hfz128_3 := blk_frozen BK336.out 3; have hfz128_4 := blk_frozen BK336.out 4; have hfz128_5 := blk_frozen BK336.out 5; have hnb129 := NB329_0.out; have hnc129 := NB0_329.out; have hcz130_0 := cq_ BK329.out 0 (.int .i64 0); have hcz130_1 := cq_ BK329.out 1 (.int .i64 0); have hcz130_2 := cq_ BK329.out 2 (.int .i64 0); have hcz130_3 := cq_ BK329.out 3 (.int .i64 0); have hcz130_4 := cq_ BK329.out 4 (.int .i64 0); have hcz130_5 := cq_ BK329.out 5 (.int .i64 0); have hfz130_0 := blk_frozen BK329.out 0; have hfz130_1 := blk_frozen BK329.out 1; have hfz130_2 := blk_frozen BK329.out 2; have hfz130_3 := blk_frozen BK329.out 3; have hfz130_4 := blk_frozen BK329.out 4; have hfz130_5 := blk_frozen BK329.out 5))
                   refine bodyPost_ret (results_cell_row rfl _ _ gb329 51 #[.int .i64 x337000_20, .int .i64 x337001_63, .int .i64 x337002_53, .int .i64 x337003_25, .int .i64 t382, .int .i64 0] (0, 0) _ rfl (bu_ BK329.out) Try.underlying51 rfl (by kernel_rfl)) rfl ?_
                   exact ⟨by first | rfl | (simp [errW_none, errW_some] <;> rfl) | (simp [*, errW_none, errW_some] <;> rfl), by repeat (first | (with_reducible first | exact HI0.out | apply IsS68.alloc | apply IsS68.drewN | apply IsS68.drew | apply IsS68.set_1 | apply IsS68.set_2 | refine IsS68.far ?_ NB0_329.out _ | refine IsS68.far ?_ NB0_336.out _) | exact HI0.out), by repeat (first | (with_reducible first | exact HB.out | apply below_alloc | apply pw_below_drewN | apply below_drew1 | refine below_set ?_ (IsS68.ge HI0.out) | refine below_set ?_ GE329.out | refine below_set ?_ GE336.out) | exact HB.out), by repeat (first | (with_reducible first | exact HK.out | apply KeepBut.set_ | apply keep_drewN | apply keep_drew | apply keep_alloc | refine keep_far ?_ GW329.out _ | refine keep_far ?_ GW336.out _) | exact HK.out)⟩
                  ·replace c123 := Bool.eq_false_iff.mpr c123
                   subst c123
                   have H1 : (if x337000_20 = 8 then (spec_l1Cur_step.j7 kj120 a1 (x337000_20 == 8) s0_0 x1001_63 x1002_63 x337000_20 x337001_63 x337002_53 x337003_25 0 0) else (if x337000_20 = 9 then (spec_l1Cur_step.j7 kj120 a1 (x337000_20 == 9) s0_0 x1001_63 x1002_63 x337000_20 x337001_63 x337002_53 x337003_25 0 0) else (spec_l1Cur_step.j7 kj120 a1 (x337000_20 == 10) s0_0 x1001_63 x1002_63 x337000_20 x337001_63 x337002_53 x337003_25 0 0))) = some (r1, r2, r3, r4, r5, r6, r7, r8) := by rw [if_neg (show ¬ (false = true) by decide)] at H; exact H
                   clear H
                   have H := H1
                   clear H1
                   have HC131 := am_ H
                   clear H
                   go_upto_if 77 with (fail)
                   go_cut [77] (fun v77 wc => ∃ (kq : Nat) (x77_130 : Bool), v77 = .bool x77_130 ∧ Aside0 (spec_l1Cur_step.j7 kq a1 x77_130 s0_0 x1001_63 x1002_63 x337000_20 x337001_63 x337002_53 x337003_25 0 0 = some (r1, r2, r3, r4, r5, r6, r7, r8)) ∧ Aside0 (kq ≤ kj120) ∧ Aside0 (wc.heap[gb329]? = some (.cells #[.int .i64 0, .int .i64 0, .int .i64 0, .int .i64 0, .int .i64 0, .int .i64 0] 51 (0, 0))) ∧ Aside0 (wc.heap[gb336]? = some (.cells #[.int .i64 x337000_20, .int .i64 x337001_63, .int .i64 x337002_53, .int .i64 x337003_25, .int .i64 0, .int .i64 0] 51 (0, 0))) ∧ Aside0 (IsS68 w0 wc g s0_0 x1001_63 x1002_63) ∧ Aside0 (KeepBut w wc g none) ∧ Aside0 (Below w0.heap.size w0 wc))
                   case first =>
                    have H := HC131.out
                    clear HC131
                    by_cases c132 : x337000_20 = 8
                    ·rw [if_pos c132] at H
                     have c132b0 : (x337000_20 == 8) = true := beq_iff_eq.mpr c132
                     have c132b1 : (x337000_20 != 8) = false := bne_eq_false_iff_eq.mpr c132
                     clear c132
                     (first | rw [c132b0] | (simp only [i64_w, i32_w]; rw [c132b0]) | skip)
                     have H' := am_ H
                     clear H
                     go_wp2
                     go_meet
                     case rel => exact ⟨_, ((x337000_20 == 8)), y14_, H', ⟨by have := HJ3.out; have := HJ20.out; have := HJ25.out; have := HJ53.out; have := HJ63.out; have := HJ79.out; have := HJ120.out; first | omega | exact Nat.le_refl _⟩, ⟨bk_ BK329.out⟩, ⟨bk_ BK336.out⟩, ⟨by repeat (first | (with_reducible first | exact HI0.out | apply IsS68.alloc | apply IsS68.drewN | apply IsS68.drew | apply IsS68.set_1 | apply IsS68.set_2 | refine IsS68.far ?_ NB0_329.out _ | refine IsS68.far ?_ NB0_336.out _) | exact HI0.out)⟩, ⟨by repeat (first | (with_reducible first | exact HK.out | apply KeepBut.set_ | apply keep_drewN | apply keep_drew | apply keep_alloc | refine keep_far ?_ GW329.out _ | refine keep_far ?_ GW336.out _) | exact HK.out)⟩, ⟨by repeat (first | (with_reducible first | exact HB.out | apply below_alloc | apply pw_below_drewN | apply below_drew1 | refine below_set ?_ (IsS68.ge HI0.out) | refine below_set ?_ GE329.out | refine below_set ?_ GE336.out) | exact HB.out)⟩⟩
                    ·rw [if_neg c132] at H
                     have c132b0 : (x337000_20 == 8) = false := beq_eq_false_iff_ne.mpr c132
                     have c132b1 : (x337000_20 != 8) = true := bne_iff_ne.mpr c132
                     (first | rw [c132b0] | (simp only [i64_w, i32_w]; rw [c132b0]) | skip)
                     by_cases c133 : x337000_20 = 9
                     ·rw [if_pos c133] at H
                      have c133b0 : (x337000_20 == 9) = true := beq_iff_eq.mpr c133
                      have c133b1 : (x337000_20 != 9) = false := bne_eq_false_iff_eq.mpr c133
                      clear c133
                      have H' := am_ H
                      clear H
                      go_wp2
                      go_meet
                      case rel => exact ⟨_, ((x337000_20 == 9)), y14_, H', ⟨by have := HJ3.out; have := HJ20.out; have := HJ25.out; have := HJ53.out; have := HJ63.out; have := HJ79.out; have := HJ120.out; first | omega | exact Nat.le_refl _⟩, ⟨bk_ BK329.out⟩, ⟨bk_ BK336.out⟩, ⟨by repeat (first | (with_reducible first | exact HI0.out | apply IsS68.alloc | apply IsS68.drewN | apply IsS68.drew | apply IsS68.set_1 | apply IsS68.set_2 | refine IsS68.far ?_ NB0_329.out _ | refine IsS68.far ?_ NB0_336.out _) | exact HI0.out)⟩, ⟨by repeat (first | (with_reducible first | exact HK.out | apply KeepBut.set_ | apply keep_drewN | apply keep_drew | apply keep_alloc | refine keep_far ?_ GW329.out _ | refine keep_far ?_ GW336.out _) | exact HK.out)⟩, ⟨by repeat (first | (with_reducible first | exact HB.out | apply below_alloc | apply pw_below_drewN | apply below_drew1 | refine below_set ?_ (IsS68.ge HI0.out) | refine below_set ?_ GE329.out | refine below_set ?_ GE336.out) | exact HB.out)⟩⟩
                     ·rw [if_neg c133] at H
                      have c133b0 : (x337000_20 == 9) = false := beq_eq_false_iff_ne.mpr c133
                      have c133b1 : (x337000_20 != 9) = true := bne_iff_ne.mpr c133
                      have H' := am_ H
                      clear H
                      go_wp2
                      go_meet
                      case rel => exact ⟨_, ((x337000_20 == 10)), y14_, H', ⟨by have := HJ3.out; have := HJ20.out; have := HJ25.out; have := HJ53.out; have := HJ63.out; have := HJ79.out; have := HJ120.out; first | omega | exact Nat.le_refl _⟩, ⟨bk_ BK329.out⟩, ⟨bk_ BK336.out⟩, ⟨by repeat (first | (with_reducible first | exact HI0.out | apply IsS68.alloc | apply IsS68.drewN | apply IsS68.drew | apply IsS68.set_1 | apply IsS68.set_2 | refine IsS68.far ?_ NB0_329.out _ | refine IsS68.far ?_ NB0_336.out _) | exact HI0.out)⟩, ⟨by repeat (first | (with_reducible first | exact HK.out | apply KeepBut.set_ | apply keep_drewN | apply keep_drew | apply keep_alloc | refine keep_far ?_ GW329.out _ | refine keep_far ?_ GW336.out _) | exact HK.out)⟩, ⟨by repeat (first | (with_reducible first | exact HB.out | apply below_alloc | apply pw_below_drewN | apply below_drew1 | refine below_set ?_ (IsS68.ge HI0.out) | refine below_set ?_ GE329.out | refine below_set ?_ GE336.out) | exact HB.out)⟩⟩
                   case rest =>
                    clear HC131
                    try clear c1
                    try clear c2
                    try clear p2
                    try clear c3
                    try clear c4
                    try clear c5
                    try clear c6
                    try clear p6
                    try clear c7
                    try clear c8
                    try clear c9
                    try clear c10
                    try clear c11
                    try clear c12
                    try clear c13
                    try clear c14
                    try clear c14b0
                    try clear c15
                    try clear c16
                    try clear c18
                    try clear c19
                    try clear c22
                    try clear c23
                    try clear c24
                    try clear c27
                    try clear c28
                    try clear c30
                    try clear c30b0
                    try clear c30b1
                    try clear c33
                    try clear c34
                    try clear c36
                    try clear c36b0
                    try clear c36b1
                    try clear c39
                    try clear c40
                    try clear c42
                    try clear c42b0
                    try clear c42b1
                    try clear c45
                    try clear c46
                    try clear c48
                    try clear c48b0
                    try clear c48b1
                    try clear c51
                    try clear c52
                    try clear c55
                    try clear c56
                    try clear c58
                    try clear c58b0
                    try clear c58b1
                    try clear c61
                    try clear c62
                    try clear p64
                    try clear c65
                    try clear c66
                    try clear c68
                    try clear c68b0
                    try clear c68b1
                    try clear c71
                    try clear c72
                    try clear c74
                    try clear c74b0
                    try clear c74b1
                    try clear c76
                    try clear c77
                    try clear c78
                    try clear c79
                    try clear c81
                    try clear c82
                    try clear c84
                    try clear c84b0
                    try clear c84b1
                    try clear c85
                    try clear c93
                    try clear c94
                    try clear c96
                    try clear c98
                    try clear c98b0
                    try clear c98b1
                    try clear c108
                    try clear c109
                    try clear c111
                    try clear c113
                    try clear c113b0
                    try clear c113b1
                    try clear c116
                    try clear c117
                    try clear c119
                    try clear c122
                    try clear c122b0
                    try clear c122b1
                    try clear c123
                    try clear c126
                    try clear c127
                    try clear c129
                    try clear c132
                    try clear c132b0
                    try clear c132b1
                    try clear c133
                    try clear c133b0
                    try clear c133b1
                    try clear hcz110_0
                    try clear hcz110_1
                    try clear hcz110_2
                    try clear hcz110_3
                    try clear hcz110_4
                    try clear hcz110_5
                    try clear hcz112_0
                    try clear hcz112_1
                    try clear hcz112_2
                    try clear hcz112_3
                    try clear hcz112_4
                    try clear hcz112_5
                    try clear hcz118_0
                    try clear hcz118_1
                    try clear hcz118_2
                    try clear hcz118_3
                    try clear hcz118_4
                    try clear hcz118_5
                    try clear hcz120_0
                    try clear hcz120_1
                    try clear hcz120_2
                    try clear hcz120_3
                    try clear hcz120_4
                    try clear hcz120_5
                    try clear hcz128_0
                    try clear hcz128_1
                    try clear hcz128_2
                    try clear hcz128_3
                    try clear hcz128_4
                    try clear hcz128_5
                    try clear hcz130_0
                    try clear hcz130_1
                    try clear hcz130_2
                    try clear hcz130_3
                    try clear hcz130_4
                    try clear hcz130_5
                    try clear hcz13_0
                    try clear hcz13_1
                    try clear hcz13_2
                    try clear hcz13_3
                    try clear hcz13_4
                    try clear hcz13_5
                    try clear hcz17_0
                    try clear hcz17_1
                    try clear hcz17_2
                    try clear hcz17_3
                    try clear hcz17_4
                    try clear hcz17_5
                    try clear hcz20_0
                    try clear hcz20_1
                    try clear hcz20_2
                    try clear hcz20_3
                    try clear hcz20_4
                    try clear hcz20_5
                    try clear hcz25_0
                    try clear hcz25_1
                    try clear hcz25_2
                    try clear hcz25_3
                    try clear hcz25_4
                    try clear hcz25_5
                    try clear hcz29_0
                    try clear hcz29_1
                    try clear hcz29_2
                    try clear hcz29_3
                    try clear hcz29_4
                    try clear hcz29_5
                    try clear hcz35_0
                    try clear hcz35_1
                    try clear hcz35_2
                    try clear hcz35_3
                    try clear hcz35_4
                    try clear hcz35_5
                    try clear hcz41_0
                    try clear hcz41_1
                    try clear hcz41_2
                    try clear hcz41_3
                    try clear hcz41_4
                    try clear hcz41_5
                    try clear hcz47_0
                    try clear hcz47_1
                    try clear hcz47_2
                    try clear hcz47_3
                    try clear hcz47_4
                    try clear hcz47_5
                    try clear hcz53_0
                    try clear hcz53_1
                    try clear hcz53_2
                    try clear hcz53_3
                    try clear hcz53_4
                    try clear hcz53_5
                    try clear hcz57_0
                    try clear hcz57_1
                    try clear hcz57_2
                    try clear hcz57_3
                    try clear hcz57_4
                    try clear hcz57_5
                    try clear hcz63_0
                    try clear hcz63_1
                    try clear hcz63_2
                    try clear hcz63_3
                    try clear hcz63_4
                    try clear hcz63_5
                    try clear hcz67_0
                    try clear hcz67_1
                    try clear hcz67_2
                    try clear hcz67_3
                    try clear hcz67_4
                    try clear hcz67_5
                    try clear hcz73_0
                    try clear hcz73_1
                    try clear hcz73_2
                    try clear hcz73_3
                    try clear hcz73_4
                    try clear hcz73_5
                    try clear hcz79_0
                    try clear hcz79_1
                    try clear hcz79_2
                    try clear hcz79_3
                    try clear hcz79_4
                    try clear hcz79_5
                    try clear hcz83_0
                    try clear hcz83_1
                    try clear hcz83_2
                    try clear hcz83_3
                    try clear hcz83_4
                    try clear hcz83_5
                    try clear hcz95_0
                    try clear hcz95_1
                    try clear hcz95_2
                    try clear hcz95_3
                    try clear hcz95_4
                    try clear hcz95_5
                    try clear hcz97_0
                    try clear hcz97_1
                    try clear hcz97_2
                    try clear hcz97_3
                    try clear hcz97_4
                    try clear hcz97_5
                    try clear hfz110_0
                    try clear hfz110_1
                    try clear hfz110_2
                    try clear hfz110_3
                    try clear hfz110_4
                    try clear hfz110_5
                    try clear hfz112_0
                    try clear hfz112_1
                    try clear hfz112_2
                    try clear hfz112_3
                    try clear hfz112_4
                    try clear hfz112_5
                    try clear hfz118_0
                    try clear hfz118_1
                    try clear hfz118_2
                    try clear hfz118_3
                    try clear hfz118_4
                    try clear hfz118_5
                    try clear hfz120_0
                    try clear hfz120_1
                    try clear hfz120_2
                    try clear hfz120_3
                    try clear hfz120_4
                    try clear hfz120_5
                    try clear hfz128_0
                    try clear hfz128_1
                    try clear hfz128_2
                    try clear hfz128_3
                    try clear hfz128_4
                    try clear hfz128_5
                    try clear hfz130_0
                    try clear hfz130_1
                    try clear hfz130_2
                    try clear hfz130_3
                    try clear hfz130_4
                    try clear hfz130_5
                    try clear hfz13_0
                    try clear hfz13_1
                    try clear hfz13_2
                    try clear hfz13_3
                    try clear hfz13_4
                    try clear hfz13_5
                    try clear hfz17_0
                    try clear hfz17_1
                    try clear hfz17_2
                    try clear hfz17_3
                    try clear hfz17_4
                    try clear hfz17_5
                    try clear hfz20_0
                    try clear hfz20_1
                    try clear hfz20_2
                    try clear hfz20_3
                    try clear hfz20_4
                    try clear hfz20_5
                    try clear hfz25_0
                    try clear hfz25_1
                    try clear hfz25_2
                    try clear hfz25_3
                    try clear hfz25_4
                    try clear hfz25_5
                    try clear hfz29_0
                    try clear hfz29_1
                    try clear hfz29_2
                    try clear hfz29_3
                    try clear hfz29_4
                    try clear hfz29_5
                    try clear hfz35_0
                    try clear hfz35_1
                    try clear hfz35_2
                    try clear hfz35_3
                    try clear hfz35_4
                    try clear hfz35_5
                    try clear hfz41_0
                    try clear hfz41_1
                    try clear hfz41_2
                    try clear hfz41_3
                    try clear hfz41_4
                    try clear hfz41_5
                    try clear hfz47_0
                    try clear hfz47_1
                    try clear hfz47_2
                    try clear hfz47_3
                    try clear hfz47_4
                    try clear hfz47_5
                    try clear hfz53_0
                    try clear hfz53_1
                    try clear hfz53_2
                    try clear hfz53_3
                    try clear hfz53_4
                    try clear hfz53_5
                    try clear hfz57_0
                    try clear hfz57_1
                    try clear hfz57_2
                    try clear hfz57_3
                    try clear hfz57_4
                    try clear hfz57_5
                    try clear hfz63_0
                    try clear hfz63_1
                    try clear hfz63_2
                    try clear hfz63_3
                    try clear hfz63_4
                    try clear hfz63_5
                    try clear hfz67_0
                    try clear hfz67_1
                    try clear hfz67_2
                    try clear hfz67_3
                    try clear hfz67_4
                    try clear hfz67_5
                    try clear hfz73_0
                    try clear hfz73_1
                    try clear hfz73_2
                    try clear hfz73_3
                    try clear hfz73_4
                    try clear hfz73_5
                    try clear hfz79_0
                    try clear hfz79_1
                    try clear hfz79_2
                    try clear hfz79_3
                    try clear hfz79_4
                    try clear hfz79_5
                    try clear hfz83_0
                    try clear hfz83_1
                    try clear hfz83_2
                    try clear hfz83_3
                    try clear hfz83_4
                    try clear hfz83_5
                    try clear hfz95_0
                    try clear hfz95_1
                    try clear hfz95_2
                    try clear hfz95_3
                    try clear hfz95_4
                    try clear hfz95_5
                    try clear hfz97_0
                    try clear hfz97_1
                    try clear hfz97_2
                    try clear hfz97_3
                    try clear hfz97_4
                    try clear hfz97_5
                    try clear p2
                    try clear p6
                    try clear p64
                    obtain ⟨kq, x77_130, rfl, HA, HJ130, BK329, BK336, HI0, HK, HB⟩ := hcut
                    cases kq with
                    | zero => exact absurd HA.out (by simp [spec_l1Cur_step.j7])
                    | succ kj130 =>
                     have H := HA.out
                     clear HA
                     simp only [spec_l1Cur_step.j7] at H
                     by_cases c134 : x77_130 = true
                     ·subst c134
                      have H1 : ((spec_l1Least.f 4 (wrap64 (a1 - 1))).bind fun t385 => ((spec_l1Cur_pick.f s0_0 x1001_63 x1002_63 t385).bind fun bt386 => (some (x337000_20, x337001_63, x337002_53, x337003_25, 0, wrap64 (1 + bt386.1), bt386.2.1, bt386.2.2)))) = some (r1, r2, r3, r4, r5, r6, r7, r8) := by rw [if_pos rfl] at H; exact H
                      clear H
                      have H := H1
                      clear H1
                      replace H := Option.bind_eq_some_iff.mp H
                      obtain ⟨t385, A1350, H⟩ := H
                      replace H : ((spec_l1Cur_pick.f s0_0 x1001_63 x1002_63 t385).bind fun bt386 => (some (x337000_20, x337001_63, x337002_53, x337003_25, 0, wrap64 (1 + bt386.1), bt386.2.1, bt386.2.2))) = some (r1, r2, r3, r4, r5, r6, r7, r8) := H
                      have A135 := am_ A1350
                      clear A1350
                      replace H := Option.bind_eq_some_iff.mp H
                      obtain ⟨⟨t386, t387, t388⟩, A1360, H⟩ := H
                      replace H : (some (x337000_20, x337001_63, x337002_53, x337003_25, 0, wrap64 (1 + t386), t387, t388)) = some (r1, r2, r3, r4, r5, r6, r7, r8) := H
                      have A136 := am_ A1360
                      clear A1360
                      simp only [Option.some.injEq, Prod.mk.injEq] at H
                      obtain ⟨rfl, rfl, rfl, rfl, rfl, rfl, rfl, rfl⟩ := H
                      go_wp2_with (first | ((with_reducible refine gl_ 90 rfl ?_); refine goesM_ (some 84) Try.func90 #[.int .i64 4, .int .i64 (wrap64 (a1 - 1))] ?_; (with_reducible refine (spec_l1Least.calls 4 (wrap64 (a1 - 1)) t385 _ A135.out).mono ?_); rintro e w' ⟨rfl, ⟨nd, rfl⟩⟩; refine ⟨_, rfl, ?_⟩; (try (rw [drewN_self wc]; generalize hq_ : World.drewN wc _ = wc; replace BK329 : Aside0 (wc.heap[gb329]? = some (.cells #[.int .i64 0, .int .i64 0, .int .i64 0, .int .i64 0, .int .i64 0, .int .i64 0] 51 (0, 0))) := ⟨by rw [← hq_]; exact (bk_ BK329.out)⟩; replace BK336 : Aside0 (wc.heap[gb336]? = some (.cells #[.int .i64 x337000_20, .int .i64 x337001_63, .int .i64 x337002_53, .int .i64 x337003_25, .int .i64 0, .int .i64 0] 51 (0, 0))) := ⟨by rw [← hq_]; exact (bk_ BK336.out)⟩; replace HK : Aside0 (KeepBut w wc g none) := ⟨by rw [← hq_]; exact y3_⟩; replace HB : Aside0 (Below w0.heap.size w0 wc) := ⟨by rw [← hq_]; exact y1_⟩; replace HI0 : Aside0 (IsS68 w0 wc g s0_0 x1001_63 x1002_63) := ⟨by rw [← hq_]; exact y0_⟩; clear hq_))) | ((with_reducible refine gl_ 76 rfl ?_); refine goesM_ (some 85) Try.func76 #[.pointer (some ⟨g, 0, none⟩), .int .i64 t385] ?_; (with_reducible refine (spec_l1Cur_pick.calls g s0_0 x1001_63 x1002_63 t385 t386 t387 t388 w0 _ ?side1 ?side2 A136.out).mono ?_); (case side1 => repeat (first | (with_reducible first | exact HI0.out | apply IsS68.alloc | apply IsS68.drewN | apply IsS68.drew | apply IsS68.set_1 | apply IsS68.set_2 | refine IsS68.far ?_ NB0_329.out _ | refine IsS68.far ?_ NB0_336.out _) | exact HI0.out)); (case side2 => repeat (first | (with_reducible first | exact HB.out | apply below_alloc | apply pw_below_drewN | apply below_drew1 | refine below_set ?_ (IsS68.ge HI0.out) | refine below_set ?_ GE329.out | refine below_set ?_ GE336.out) | exact HB.out)); rintro e w137 ⟨rfl, hi, hb, hk⟩; refine ⟨_, rfl, ?_⟩; replace BK329 := am_ (KeepBut.blk hk (g' := gb329) (o := .cells #[.int .i64 0, .int .i64 0, .int .i64 0, .int .i64 0, .int .i64 0, .int .i64 0] 51 (0, 0)) (bk_ BK329.out) NB329_0.out (by simp)); replace BK336 := am_ (KeepBut.blk hk (g' := gb336) (o := .cells #[.int .i64 x337000_20, .int .i64 x337001_63, .int .i64 x337002_53, .int .i64 x337003_25, .int .i64 0, .int .i64 0] 51 (0, 0)) (bk_ BK336.out) NB336_0.out (by simp)); replace HK := am_ (KeepBut.trans y3_ hk (.inl rfl)); replace HB := am_ (hb); replace HI0 := am_ (hi); (try clear hb); (try clear hk); (try clear hi); have hnb138 := NB336_329.out; have hnc138 := NB329_336.out; have hnb139 := NB336_0.out; have hnc139 := NB0_336.out; have hcz140_0 := cq_ BK336.out 0 (.int .i64 x337000_20); have hcz140_1 := cq_ BK336.out 1 (.int .i64 x337001_63); have hcz140_2 := cq_ BK336.out 2 (.int .i64 x337002_53); have hcz140_3 := cq_ BK336.out 3 (.int .i64 x337003_25); have hcz140_4 := cq_ BK336.out 4 (.int .i64 0); have hcz140_5 := cq_ BK336.out 5 (.int .i64 0); have hfz140_0 := blk_frozen BK336.out 0; have hfz140_1 := blk_frozen BK336.out 1; have hfz140_2 := blk_frozen BK336.out 2; have hfz140_3 := blk_frozen BK336.out 3; have hfz140_4 := blk_frozen BK336.out 4; have hfz140_5 := blk_frozen BK336.out 5; have hnb141 := NB329_0.out; have hnc141 := NB0_329.out; have hcz142_0 := cq_ BK329.out 0 (.int .i64 0); have hcz142_1 := cq_ BK329.out 1 (.int .i64 0); have hcz142_2 := cq_ BK329.out 2 (.int .i64 0); have hcz142_3 := cq_ BK329.out 3 (.int .i64 0); have hcz142_4 := cq_ BK329.out 4 (.int .i64 0); have hcz142_5 := cq_ BK329.out 5 (.int .i64 0); have hfz142_0 := blk_frozen BK329.out 0; have hfz142_1 := blk_frozen BK329.out 1; have hfz142_2 := blk_frozen BK329.out 2; have hfz142_3 := blk_frozen BK329.out 3; have hfz142_4 := blk_frozen BK329.out 4; have hfz142_5 := blk_frozen BK329.out 5))
                      refine bodyPost_ret (results_cell_row rfl _ _ gb329 51 #[.int .i64 x337000_20, .int .i64 x337001_63, .int .i64 x337002_53, .int .i64 x337003_25, .int .i64 0, .int .i64 (wrap64 (1 + t386))] (0, 0) _ rfl (bu_ BK329.out) Try.underlying51 rfl (by kernel_rfl)) rfl ?_
                      exact ⟨by first | rfl | (simp [errW_none, errW_some] <;> rfl) | (simp [*, errW_none, errW_some] <;> rfl), by repeat (first | (with_reducible first | exact HI0.out | apply IsS68.alloc | apply IsS68.drewN | apply IsS68.drew | apply IsS68.set_1 | apply IsS68.set_2 | refine IsS68.far ?_ NB0_329.out _ | refine IsS68.far ?_ NB0_336.out _) | exact HI0.out), by repeat (first | (with_reducible first | exact HB.out | apply below_alloc | apply pw_below_drewN | apply below_drew1 | refine below_set ?_ (IsS68.ge HI0.out) | refine below_set ?_ GE329.out | refine below_set ?_ GE336.out) | exact HB.out), by repeat (first | (with_reducible first | exact HK.out | apply KeepBut.set_ | apply keep_drewN | apply keep_drew | apply keep_alloc | refine keep_far ?_ GW329.out _ | refine keep_far ?_ GW336.out _) | exact HK.out)⟩
                     ·replace c134 := Bool.eq_false_iff.mpr c134
                      subst c134
                      have H1 : (some (x337000_20, x337001_63, x337002_53, x337003_25, 0, 0, x1001_63, x1002_63)) = some (r1, r2, r3, r4, r5, r6, r7, r8) := by rw [if_neg (show ¬ (false = true) by decide)] at H; exact H
                      clear H
                      have H := H1
                      clear H1
                      simp only [Option.some.injEq, Prod.mk.injEq] at H
                      obtain ⟨rfl, rfl, rfl, rfl, rfl, rfl, rfl, rfl⟩ := H
                      have hnb143 := NB336_329.out
                      have hnc143 := NB329_336.out
                      have hnb144 := NB336_0.out
                      have hnc144 := NB0_336.out
                      have hcz145_0 := cq_ BK336.out 0 (.int .i64 x337000_20)
                      have hcz145_1 := cq_ BK336.out 1 (.int .i64 x337001_63)
                      have hcz145_2 := cq_ BK336.out 2 (.int .i64 x337002_53)
                      have hcz145_3 := cq_ BK336.out 3 (.int .i64 x337003_25)
                      have hcz145_4 := cq_ BK336.out 4 (.int .i64 0)
                      have hcz145_5 := cq_ BK336.out 5 (.int .i64 0)
                      have hfz145_0 := blk_frozen BK336.out 0
                      have hfz145_1 := blk_frozen BK336.out 1
                      have hfz145_2 := blk_frozen BK336.out 2
                      have hfz145_3 := blk_frozen BK336.out 3
                      have hfz145_4 := blk_frozen BK336.out 4
                      have hfz145_5 := blk_frozen BK336.out 5
                      have hnb146 := NB329_0.out
                      have hnc146 := NB0_329.out
                      have hcz147_0 := cq_ BK329.out 0 (.int .i64 0)
                      have hcz147_1 := cq_ BK329.out 1 (.int .i64 0)
                      have hcz147_2 := cq_ BK329.out 2 (.int .i64 0)
                      have hcz147_3 := cq_ BK329.out 3 (.int .i64 0)
                      have hcz147_4 := cq_ BK329.out 4 (.int .i64 0)
                      have hcz147_5 := cq_ BK329.out 5 (.int .i64 0)
                      have hfz147_0 := blk_frozen BK329.out 0
                      have hfz147_1 := blk_frozen BK329.out 1
                      have hfz147_2 := blk_frozen BK329.out 2
                      have hfz147_3 := blk_frozen BK329.out 3
                      have hfz147_4 := blk_frozen BK329.out 4
                      have hfz147_5 := blk_frozen BK329.out 5
                      go_wp2
                      refine bodyPost_ret (results_cell_row rfl _ _ gb329 51 #[.int .i64 x337000_20, .int .i64 x337001_63, .int .i64 x337002_53, .int .i64 x337003_25, .int .i64 0, .int .i64 0] (0, 0) _ rfl (bu_ BK329.out) Try.underlying51 rfl (by kernel_rfl)) rfl ?_
                      exact ⟨by first | rfl | (simp [errW_none, errW_some] <;> rfl) | (simp [*, errW_none, errW_some] <;> rfl), by repeat (first | (with_reducible first | exact HI0.out | apply IsS68.alloc | apply IsS68.drewN | apply IsS68.drew | apply IsS68.set_1 | apply IsS68.set_2 | refine IsS68.far ?_ NB0_329.out _ | refine IsS68.far ?_ NB0_336.out _) | exact HI0.out), by repeat (first | (with_reducible first | exact HB.out | apply below_alloc | apply pw_below_drewN | apply below_drew1 | refine below_set ?_ (IsS68.ge HI0.out) | refine below_set ?_ GE329.out | refine below_set ?_ GE336.out) | exact HB.out), by repeat (first | (with_reducible first | exact HK.out | apply KeepBut.set_ | apply keep_drewN | apply keep_drew | apply keep_alloc | refine keep_far ?_ GW329.out _ | refine keep_far ?_ GW336.out _) | exact HK.out)⟩
end Go.Proofs.Ytcmhkgpalfljbaa.PPA
