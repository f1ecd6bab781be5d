import Derived.Test.YtpndhlcbfobelaaPDXx0
import Derived.Test.YtpndhlcbfobelaaPDXx13
import Derived.Test.YtpndhlcbfobelaaPDXx14
namespace Go.Proofs.Ytpndhlcbfobelaa.PDX
open Go.RowKit Go.Proofs.YtpndhlcbfobelaaW.PrintWords Go.Proofs.YtpndhlcbfobelaaW.PrintLast Go.Proofs.YtpndhlcbfobelaaW.PrintMore
attribute [local go_sem] max2_int min2_int max_two min_two max_three min_three max_four min_four   -- for this text's walks alone
set_option linter.unusedVariables false
set_option linter.unusedSimpArgs false
mutual
def spec_l1Cur_clauses.j0 : Nat → Int → List Int → Int → Int → Option (Int × (List (List Int)) × Int × Int)
 | 0, _, _, _, _ => none
 | k + 1, x4, x1000, x1001, x1002 => (spec_l1Cur_pick.f x1000 x1001 x1002 14).bind fun bt307 => (if x4 = 0 then (spec_l1Cur_clauses.j1 k x4 ([] : List (List Int)) 0 x1000 bt307.2.1 bt307.2.2) else (spec_l1Cur_clauses.j1 k x4 ([] : List (List Int)) bt307.1 x1000 bt307.2.1 bt307.2.2))
def spec_l1Cur_clauses.j1 : Nat → Int → List (List Int) → Int → List Int → Int → Int → Option (Int × (List (List Int)) × Int × Int)
 | 0, _, _, _, _, _, _ => none
 | k + 1, x4, x5, x6, x1000, x1001, x1002 => spec_l1Cur_clauses.l0 k x4 x5 x6 x1000 x1001 x1002
def spec_l1Cur_clauses.l0 : Nat → Int → List (List Int) → Int → List Int → Int → Int → Option (Int × (List (List Int)) × Int × Int)
 | 0, _, _, _, _, _, _ => none
 | k + 1, x4, x5, x6, x1000, x1001, x1002 => if x6 > 0 then ((spec_l1Cur_pick.f x1000 x1001 x1002 3).bind fun bt310 => (spec_l1Cur_clauses.l1 k x4 x5 x6 ([] : List Int) (wrap64 (1 + bt310.1)) x1000 bt310.2.1 bt310.2.2)) else (if (x5.length : Int) > 0 then ((spec_l1Cur_one.f x1000 x1001 x1002 30).bind fun bt326 => (if bt326.1 = true then (if 0 < (x5.length : Int) then ((spec_l1Cur_among.f x1000 bt326.2.1 bt326.2.2 (([0, 13, 1] : List Int))).bind fun bt333 => (if (rd_L6 x5 0).length < 17592186044416 then (some (x4, (x5.set (0 : Int).toNat ((rd_L6 x5 0) ++ [bt333.1])), bt333.2.1, bt333.2.2)) else (none))) else (none)) else (some (x4, x5, bt326.2.1, bt326.2.2)))) else (some (x4, x5, x1001, x1002)))
def spec_l1Cur_clauses.l1 : Nat → Int → List (List Int) → Int → List Int → Int → List Int → Int → Int → Option (Int × (List (List Int)) × Int × Int)
 | 0, _, _, _, _, _, _, _, _ => none
 | k + 1, x4, x5, x6, x7, x8, x1000, x1001, x1002 => if x8 > 0 then ((spec_l1Cur_lit.f x1000 x1001 x1002 x4).bind fun bt313 => (if x7.length < 17592186044416 then (spec_l1Cur_clauses.l1 k x4 x5 x6 (x7 ++ [bt313.1]) (wrap64 (x8 - 1)) x1000 bt313.2.1 bt313.2.2) else (none))) else ((spec_CleanClause.f k x7).bind fun bt319 => (if bt319.2 = true then (if x5.length < 5864062014805 then (spec_l1Cur_clauses.l0 k x4 (x5 ++ [bt319.1]) (wrap64 (x6 - 1)) x1000 x1001 x1002) else (none)) else (spec_l1Cur_clauses.l0 k x4 x5 (wrap64 (x6 - 1)) x1000 x1001 x1002)))
end
def spec_l1Cur_clauses.f (k : Nat) (s0_0 : List Int) (s0_1 : Int) (s0_2 : Int) : Option (Int × (List (List Int)) × Int × Int) := (spec_l1Cur_pick.f s0_0 s0_1 s0_2 6).bind fun bt295 => ((spec_l1Cur_one.f s0_0 bt295.2.1 bt295.2.2 30).bind fun bt298 => (if bt298.1 = true then ((spec_l1Cur_among.f s0_0 bt298.2.1 bt298.2.2 (([0, 10, 13] : List Int))).bind fun bt304 => (spec_l1Cur_clauses.j0 k bt304.1 s0_0 bt304.2.1 bt304.2.2)) else (spec_l1Cur_clauses.j0 k (wrap64 (1 + bt295.1)) s0_0 bt298.2.1 bt298.2.2)))
def spec_l1Cur_clauses.T19 : Bool × List (List Nat × List Nat) := (true, [([], []), ([], []), ([1], [1]), ([2], [2]), ([], []), ([], []), ([4, 5], [4, 5]), ([6], [6]), ([3, 7, 6], [3, 7]), ([0, 0, 1, 2, 3, 4, 5, 6, 7, 8], [0]), ([9, 8, 8, 0, 1, 2, 3, 4, 5, 6, 7, 8], [8, 9])])
def spec_l1Cur_clauses.B19 : List Nat := [0, 0, 2, 6, 0, 0, 48, 112, 254, 511, 1023]
theorem spec_l1Cur_clauses.tab19 : rtab .any (opsOf Try.f101 19) = spec_l1Cur_clauses.T19 := by kernel_rfl
theorem spec_l1Cur_clauses.bits19 : waitsOk spec_l1Cur_clauses.T19.2 spec_l1Cur_clauses.B19 = true := by kernel_rfl
set_option maxHeartbeats 8000000 in
set_option maxRecDepth 100000 in
theorem spec_l1Cur_clauses.calls (k : Nat) (g : Nat) (s0_0 : List Int) (s0_1 : Int) (s0_2 : Int) (r1 : Int) (r2 : List (List Int)) (r3 : Int) (r4 : Int) (w0 w : World) (hI : IsS95 w0 w g s0_0 s0_1 s0_2) (hB : Below w0.heap.size w0 w) (h : spec_l1Cur_clauses.f k s0_0 s0_1 s0_2 = some (r1, r2, r3, r4)) :
  Calls Try.prog 101 #[.pointer (some ⟨g, 0, none⟩)] w fun e w' => ∃ v1_ : Value, e = .returned (.tuple #[.int .i64 r1, v1_]) ∧ Kd.S (Kd.slice 3 (Kd.int .i64)) 88 w' w.heap.size (fun _ => True) v1_ r2 ∧ IsS95 w0 w' g s0_0 r3 r4 ∧ Below w0.heap.size w0 w' ∧ KeepBut w w' g none := by
 have HI0 := am_ hI
 have HK := am_ (KeepBut.refl w g none)
 have HL := am_ hB.size
 clear hI
 have HW0 := am_ hB.size
 have HB := am_ hB
 clear hB
 have H : ((spec_l1Cur_pick.f s0_0 s0_1 s0_2 6).bind fun bt295 => ((spec_l1Cur_one.f s0_0 bt295.2.1 bt295.2.2 30).bind fun bt298 => (if bt298.1 = true then ((spec_l1Cur_among.f s0_0 bt298.2.1 bt298.2.2 (([0, 10, 13] : List Int))).bind fun bt304 => (spec_l1Cur_clauses.j0 k bt304.1 s0_0 bt304.2.1 bt304.2.2)) else (spec_l1Cur_clauses.j0 k (wrap64 (1 + bt295.1)) s0_0 bt298.2.1 bt298.2.2)))) = some (r1, r2, r3, r4) := h
 clear h
 replace H := Option.bind_eq_some_iff.mp H
 obtain ⟨⟨t295, t296, t297⟩, A20, H⟩ := H
 replace H : ((spec_l1Cur_one.f s0_0 t296 t297 30).bind fun bt298 => (if bt298.1 = true then ((spec_l1Cur_among.f s0_0 bt298.2.1 bt298.2.2 (([0, 10, 13] : List Int))).bind fun bt304 => (spec_l1Cur_clauses.j0 k bt304.1 s0_0 bt304.2.1 bt304.2.2)) else (spec_l1Cur_clauses.j0 k (wrap64 (1 + t295)) s0_0 bt298.2.1 bt298.2.2))) = some (r1, r2, r3, r4) := H
 have A2 := am_ A20
 clear A20
 replace H := Option.bind_eq_some_iff.mp H
 obtain ⟨⟨t298, t299, t300⟩, A30, H⟩ := H
 replace H : (if t298 = true then ((spec_l1Cur_among.f s0_0 t299 t300 (([0, 10, 13] : List Int))).bind fun bt304 => (spec_l1Cur_clauses.j0 k bt304.1 s0_0 bt304.2.1 bt304.2.2)) else (spec_l1Cur_clauses.j0 k (wrap64 (1 + t295)) s0_0 t299 t300)) = some (r1, r2, r3, r4) := H
 have A3 := am_ A30
 clear A30
 have HC4 := am_ H
 clear H
 go_enter Try.func101, Try.ntmps101
 go_upto_if 15 with (first | ((with_reducible refine gl_ 81 rfl ?_); refine goesM_ (some 12) Try.func81 #[.pointer (some ⟨g, 0, none⟩), .int .i64 6] ?_; (with_reducible refine (spec_l1Cur_pick.calls g s0_0 s0_1 s0_2 6 t295 t296 t297 w0 _ ?side1 ?side2 A2.out).mono ?_); (case side1 => repeat (first | (with_reducible first | exact HI0.out | apply IsS95.alloc | apply IsS95.drewN | apply IsS95.drew | apply IsS95.set_1 | apply IsS95.set_2) | exact HI0.out)); (case side2 => repeat (first | (with_reducible first | exact HB.out | apply below_alloc | apply pw_below_drewN | apply below_drew1 | refine below_set ?_ (IsS95.ge HI0.out)) | exact HB.out)); rintro e w5 ⟨rfl, hi, hb, hk⟩; refine ⟨_, rfl, ?_⟩; replace HK := am_ (KeepBut.trans y14_ hk (.inl rfl)); replace HB := am_ (hb); replace HI0 := am_ (hi); (try clear hb); (try clear hk); (try clear hi)) | ((with_reducible refine gl_ 82 rfl ?_); refine goesM_ (some 15) Try.func82 #[.pointer (some ⟨g, 0, none⟩), .int .i64 30] ?_; (with_reducible refine (spec_l1Cur_one.calls g s0_0 t296 t297 30 t298 t299 t300 w0 _ ?side1 ?side2 A3.out).mono ?_); (case side1 => repeat (first | (with_reducible first | exact HI0.out | apply IsS95.alloc | apply IsS95.drewN | apply IsS95.drew | apply IsS95.set_1 | apply IsS95.set_2) | exact HI0.out)); (case side2 => repeat (first | (with_reducible first | exact HB.out | apply below_alloc | apply pw_below_drewN | apply below_drew1 | refine below_set ?_ (IsS95.ge HI0.out)) | exact HB.out)); rintro e w6 ⟨rfl, hi, hb, hk⟩; refine ⟨_, rfl, ?_⟩; replace HK := am_ (KeepBut.trans y14_ hk (.inl rfl)); replace HB := am_ (hb); replace HI0 := am_ (hi); (try clear hb); (try clear hk); (try clear hi)))
 (try simp only [Act.put, List.setIfInBounds_toArray, List.set_cons_zero, List.set_cons_succ])
 go_cut [4] (fun v4 wc => ∃ (kq : Nat) (x4_3 : Int) (x1001_3 : Int) (x1002_3 : Int), v4 = .int .i64 x4_3 ∧ Aside0 (spec_l1Cur_clauses.j0 kq x4_3 s0_0 x1001_3 x1002_3 = some (r1, r2, r3, r4)) ∧ Aside0 (kq ≤ k) ∧ Aside0 (IsS95 w0 wc g s0_0 x1001_3 x1002_3) ∧ Aside0 (KeepBut w wc g none) ∧ Aside0 (Below w0.heap.size w0 wc))
 case first =>
  have H := HC4.out
  clear HC4
  by_cases c7 : t298 = true
  ·subst c7
   have H1 : ((spec_l1Cur_among.f s0_0 t299 t300 (([0, 10, 13] : List Int))).bind fun bt304 => (spec_l1Cur_clauses.j0 k bt304.1 s0_0 bt304.2.1 bt304.2.2)) = some (r1, r2, r3, r4) := by rw [if_pos rfl] at H; exact H
   clear H
   have H := H1
   clear H1
   obtain ⟨y301, hy301⟩ : ∃ y_ : List Int, y_ = (([0, 10, 13] : List Int)) := ⟨_, rfl⟩
   replace H : ((spec_l1Cur_among.f s0_0 t299 t300 y301).bind fun bt304 => (spec_l1Cur_clauses.j0 k bt304.1 s0_0 bt304.2.1 bt304.2.2)) = some (r1, r2, r3, r4) := by first | (rw [hy301]; with_reducible exact H) | (have H2_ := (Option.bind_some _ _).symm.trans H; rw [hy301]; with_reducible exact H2_) | (have H2_ := (Option.bind_some _ _).symm.trans H; with_reducible exact H2_) | with_reducible exact H | (rw [hy301]; exact H) | exact H
   have Ny301 := am_ hy301
   clear hy301
   replace H := Option.bind_eq_some_iff.mp H
   obtain ⟨⟨t304, t305, t306⟩, A80, H⟩ := H
   replace H : (spec_l1Cur_clauses.j0 k t304 s0_0 t305 t306) = some (r1, r2, r3, r4) := H
   have A8 := am_ A80
   clear A80
   have H' := am_ H
   clear H
   go_wp2_with (first | ((with_reducible refine gate_dst (N := 17) rfl ?_); refine Kd.R_lit (Kd.int .i64) _ 3 ?hg (N := 17) ?hd (xs := ([0, 10, 13] : List Int)) (inner := [.int .i64 0, .int .i64 10, .int .i64 13]) (ok := fun _ => True) (okp := fun _ => True) ?hr ?hp (fun _ hk => hk) trivial (Below.refl _ _) (Nat.le_refl _) (by simp) ?_; (case hd => rfl); (case hg => rfl); (case hr => first | (go_simp; done) | (go_simp; rfl)); (case hp => exact (Reps.one (show Kd.M (Kd.int .i64) _ _ _ 0 [.int .i64 0] from rfl) (Reps.one (show Kd.M (Kd.int .i64) _ _ _ 10 [.int .i64 10] from rfl) (Reps.one (show Kd.M (Kd.int .i64) _ _ _ 13 [.int .i64 13] from rfl) (Reps.none _ _))))); intro v302 w9 ho10 hb hg_ hnew_; clear hg_ hnew_; (first | rw [← Ny301.out] at ho10 | (simp only [Int.reduceToNat] at ho10; rw [← Ny301.out] at ho10)); have HO303 := am_ (Kd.R_lower ho10 (keep_size (w := w) (g := g) (row := none) y14_)); replace HK := am_ (KeepBut.trans y14_ (KeepBut.of_below hb g none) (.inl rfl)); replace HB := am_ (below_step y12_ hb); replace HI0 := am_ (IsS95.below y13_ hb); clear hb ho10; obtain ⟨Ao11, co11, eo11⟩ := Kd.R_slice HO303.out; subst eo11) | ((with_reducible refine gl_ 111 rfl ?_); refine goesM_ (some 18) Try.func111 #[.pointer (some ⟨g, 0, none⟩), .slice Ao11 y301.length co11] ?_; (with_reducible refine (spec_l1Cur_among.calls g s0_0 t299 t300 _ _ y301 t304 t305 t306 w0 _ ?side1 ?side2 ?side3 ?side4 ?side5 A8.out).mono ?_); (case side1 => repeat (first | (with_reducible first | exact HI0.out | apply IsS95.alloc | apply IsS95.drewN | apply IsS95.drew | apply IsS95.set_1 | apply IsS95.set_2) | exact HI0.out)); (case side2 => repeat (first | (with_reducible first | exact HB.out | apply below_alloc | apply pw_below_drewN | apply below_drew1 | refine below_set ?_ (IsS95.ge HI0.out)) | exact HB.out)); (case side3 => exact cm_ (Kd.R_reads' HO303.out).2.2); (case side4 => exact (Kd.R_reads' HO303.out).2.1); (case side5 => exact far_slice (IsS95.own_ne HI0.out HO303.out (by decide))); rintro e w12 ⟨rfl, hi, hb, hk⟩; refine ⟨_, rfl, ?_⟩; replace HO303 := am_ (Kd.R_mono (Kd.R_keep (IsS95.apart (show IsS95 w0 _ g s0_0 t299 t300 from by repeat (first | (with_reducible first | exact HI0.out | apply IsS95.alloc | apply IsS95.drewN | apply IsS95.drew | apply IsS95.set_1 | apply IsS95.set_2) | exact HI0.out)) (rq_ HO303.out) (by decide)) hk (fun _ h => h.2)) (fun _ h => h.1)); replace HK := am_ (KeepBut.trans y14_ hk (.inl rfl)); replace HB := am_ (hb); replace HI0 := am_ (hi); (try clear hb); (try clear hk); (try clear hi)))
   go_meet
   case rel => exact ⟨_, (t304), (t305), (t306), y30_, H', ⟨by first | omega | exact Nat.le_refl _⟩, ⟨by repeat (first | (with_reducible first | exact HI0.out | apply IsS95.alloc | apply IsS95.drewN | apply IsS95.drew | apply IsS95.set_1 | apply IsS95.set_2) | exact HI0.out)⟩, ⟨by repeat (first | (with_reducible first | exact HK.out | apply KeepBut.set_ | apply keep_drewN | apply keep_drew | apply keep_alloc) | exact HK.out)⟩, ⟨by repeat (first | (with_reducible first | exact HB.out | apply below_alloc | apply pw_below_drewN | apply below_drew1 | refine below_set ?_ (IsS95.ge HI0.out)) | exact HB.out)⟩⟩
  ·replace c7 := Bool.eq_false_iff.mpr c7
   subst c7
   have H1 : (spec_l1Cur_clauses.j0 k (wrap64 (1 + t295)) s0_0 t299 t300) = some (r1, r2, r3, r4) := by rw [if_neg (show ¬ (false = true) by decide)] at H; exact H
   clear H
   have H := H1
   clear H1
   have H' := am_ H
   clear H
   go_wp2
   go_meet
   case rel => exact ⟨_, (wrap64 (1 + t295)), (t299), (t300), y30_, H', ⟨by first | omega | exact Nat.le_refl _⟩, ⟨by repeat (first | (with_reducible first | exact HI0.out | apply IsS95.alloc | apply IsS95.drewN | apply IsS95.drew | apply IsS95.set_1 | apply IsS95.set_2) | exact HI0.out)⟩, ⟨by repeat (first | (with_reducible first | exact HK.out | apply KeepBut.set_ | apply keep_drewN | apply keep_drew | apply keep_alloc) | exact HK.out)⟩, ⟨by repeat (first | (with_reducible first | exact HB.out | apply below_alloc | apply pw_below_drewN | apply below_drew1 | refine below_set ?_ (IsS95.ge HI0.out)) | exact HB.out)⟩⟩
 case rest =>
  clear HC4
  try clear c1
  try clear p2
  try clear p6
  try clear c7
  try clear c8
  try clear c10
  try clear c11
  obtain ⟨kq, x4_3, x1001_3, x1002_3, rfl, HA, HJ3, HI0, HK, HB⟩ := hcut
  cases kq with
  | zero => exact absurd HA.out (by simp [spec_l1Cur_clauses.j0])
  | succ kj3 =>
   have H := HA.out
   clear HA
   simp only [spec_l1Cur_clauses.j0] at H
   replace H := Option.bind_eq_some_iff.mp H
   obtain ⟨⟨t307, t308, t309⟩, A130, H⟩ := H
   replace H : (if x4_3 = 0 then (spec_l1Cur_clauses.j1 kj3 x4_3 ([] : List (List Int)) 0 s0_0 t308 t309) else (spec_l1Cur_clauses.j1 kj3 x4_3 ([] : List (List Int)) t307 s0_0 t308 t309)) = some (r1, r2, r3, r4) := H
   have A13 := am_ A130
   clear A130
   have HC14 := am_ H
   clear H
   go_upto_if 22 with (first | ((with_reducible refine gl_ 81 rfl ?_); refine goesM_ (some 20) Try.func81 #[.pointer (some ⟨g, 0, none⟩), .int .i64 14] ?_; (with_reducible refine (spec_l1Cur_pick.calls g s0_0 x1001_3 x1002_3 14 t307 t308 t309 w0 _ ?side1 ?side2 A13.out).mono ?_); (case side1 => repeat (first | (with_reducible first | exact HI0.out | apply IsS95.alloc | apply IsS95.drewN | apply IsS95.drew | apply IsS95.set_1 | apply IsS95.set_2) | exact HI0.out)); (case side2 => repeat (first | (with_reducible first | exact HB.out | apply below_alloc | apply pw_below_drewN | apply below_drew1 | refine below_set ?_ (IsS95.ge HI0.out)) | exact HB.out)); rintro e w15 ⟨rfl, hi, hb, hk⟩; refine ⟨_, rfl, ?_⟩; replace HK := am_ (KeepBut.trans y14_ hk (.inl rfl)); replace HB := am_ (hb); replace HI0 := am_ (hi); (try clear hb); (try clear hk); (try clear hi)))
   (try simp only [Act.put, List.setIfInBounds_toArray, List.set_cons_zero, List.set_cons_succ])
   go_cut [6] (fun v6 wc => ∃ (kq : Nat) (x6_13 : Int), v6 = .int .i64 x6_13 ∧ Aside0 (spec_l1Cur_clauses.j1 kq x4_3 ([] : List (List Int)) x6_13 s0_0 t308 t309 = some (r1, r2, r3, r4)) ∧ Aside0 (kq ≤ kj3) ∧ Aside0 (Kd.S (Kd.slice 3 (Kd.int .i64)) 88 wc w.heap.size (fun _ => True) (.slice none 0 0) ([] : List (List Int))) ∧ Aside0 (IsS95 w0 wc g s0_0 t308 t309) ∧ Aside0 (KeepBut w wc g none) ∧ Aside0 (Below w0.heap.size w0 wc))
   case first =>
    have H := HC14.out
    clear HC14
    by_cases c16 : x4_3 = 0
    ·rw [if_pos c16] at H
     have c16b0 : (x4_3 == 0) = true := beq_iff_eq.mpr c16
     have c16b1 : (x4_3 != 0) = false := bne_eq_false_iff_eq.mpr c16
     clear c16
     (first | rw [c16b0] | (simp only [i64_w, i32_w]; rw [c16b0]) | skip)
     have H' := am_ H
     clear H
     go_wp2
     go_meet
     case rel => exact ⟨_, (0), y30_, H', ⟨by have := HJ3.out; first | omega | exact Nat.le_refl _⟩, ⟨by first | exact Kd.S_nil _ _ _ _ _ | exact Kd.N_nil _ _ _ _ _ | exact Kd.V_nil _ _ _ _ _ | exact Kd.Q_nil _ _ _ _ _ | exact Kd.R_nil _ _ _ _ _⟩, ⟨by repeat (first | (with_reducible first | exact HI0.out | apply IsS95.alloc | apply IsS95.drewN | apply IsS95.drew | apply IsS95.set_1 | apply IsS95.set_2) | exact HI0.out)⟩, ⟨by repeat (first | (with_reducible first | exact HK.out | apply KeepBut.set_ | apply keep_drewN | apply keep_drew | apply keep_alloc) | exact HK.out)⟩, ⟨by repeat (first | (with_reducible first | exact HB.out | apply below_alloc | apply pw_below_drewN | apply below_drew1 | refine below_set ?_ (IsS95.ge HI0.out)) | exact HB.out)⟩⟩
    ·rw [if_neg c16] at H
     have c16b0 : (x4_3 == 0) = false := beq_eq_false_iff_ne.mpr c16
     have c16b1 : (x4_3 != 0) = true := bne_iff_ne.mpr c16
     (first | rw [c16b0] | (simp only [i64_w, i32_w]; rw [c16b0]) | skip)
     have H' := am_ H
     clear H
     go_wp2
     go_meet
     case rel => exact ⟨_, (t307), y30_, H', ⟨by have := HJ3.out; first | omega | exact Nat.le_refl _⟩, ⟨by first | exact Kd.S_nil _ _ _ _ _ | exact Kd.N_nil _ _ _ _ _ | exact Kd.V_nil _ _ _ _ _ | exact Kd.Q_nil _ _ _ _ _ | exact Kd.R_nil _ _ _ _ _⟩, ⟨by repeat (first | (with_reducible first | exact HI0.out | apply IsS95.alloc | apply IsS95.drewN | apply IsS95.drew | apply IsS95.set_1 | apply IsS95.set_2) | exact HI0.out)⟩, ⟨by repeat (first | (with_reducible first | exact HK.out | apply KeepBut.set_ | apply keep_drewN | apply keep_drew | apply keep_alloc) | exact HK.out)⟩, ⟨by repeat (first | (with_reducible first | exact HB.out | apply below_alloc | apply pw_below_drewN | apply below_drew1 | refine below_set ?_ (IsS95.ge HI0.out)) | exact HB.out)⟩⟩
   case rest =>
    clear HC14
    try clear c1
    try clear p2
    try clear p6
    try clear c7
    try clear c8
    try clear c10
    try clear c11
    try clear c16
    try clear c16b0
    try clear c16b1
    try clear p2
    try clear p6
    obtain ⟨kq, x6_13, rfl, HA, HJ13, HO_5, HI0, HK, HB⟩ := hcut
    cases kq with
    | zero => exact absurd HA.out (by simp [spec_l1Cur_clauses.j1])
    | succ kj13 =>
     have H := HA.out
     clear HA
     simp only [spec_l1Cur_clauses.j1] at H
     have H' := am_ H
     clear H
     go_wp2
     go_loopg [5, 6] kj13 (fun kq v5 v6 w' => ∃ (x5_3 : List (List Int)) (x6_3 : Int) (x1001_3 : Int) (x1002_3 : Int), v6 = .int .i64 x6_3 ∧ Aside0 (spec_l1Cur_clauses.l0 kq x4_3 x5_3 x6_3 s0_0 x1001_3 x1002_3 = some (r1, r2, r3, r4)) ∧ Aside0 (kq ≤ kj13) ∧ Aside0 (Kd.S (Kd.slice 3 (Kd.int .i64)) 88 w' w.heap.size (fun _ => True) v5 x5_3) ∧ Aside0 (IsS95 w0 w' g s0_0 x1001_3 x1002_3) ∧ Aside0 (KeepBut w w' g none) ∧ Aside0 (Below w0.heap.size w0 w'))
     case atStart => exact ⟨(([] : List (List Int))), (x6_13), (t308), (t309), y30_, H', ⟨Nat.le_refl _⟩, ⟨by (with_reducible repeat (first | apply Kd.S_alloc | apply Kd.S_drewN | apply Kd.S_drew)); exact HO_5.out⟩, ⟨by repeat (first | (with_reducible first | exact HI0.out | apply IsS95.alloc | apply IsS95.drewN | apply IsS95.drew | apply IsS95.set_1 | apply IsS95.set_2) | exact HI0.out)⟩, ⟨by repeat (first | (with_reducible first | exact HK.out | apply KeepBut.set_ | apply keep_drewN | apply keep_drew | apply keep_alloc) | exact HK.out)⟩, ⟨by repeat (first | (with_reducible first | exact HB.out | apply below_alloc | apply pw_below_drewN | apply below_drew1 | refine below_set ?_ (IsS95.ge HI0.out)) | exact HB.out)⟩⟩
     case round =>
      clear H'
      try clear c1
      try clear p2
      try clear p6
      try clear c7
      try clear c8
      try clear c10
      try clear c11
      try clear c16
      try clear c16b0
      try clear c16b1
      try clear p2
      try clear p6
      obtain ⟨x5_3, x6_3, x1001_3, x1002_3, rfl, HA, HK3, HO_5, HI0, HK, HB⟩ := hrel
      cases gk with
      | zero => exact absurd HA.out (by simp [spec_l1Cur_clauses.l0])
      | succ k3 =>
       have H := HA.out
       clear HA
       simp only [spec_l1Cur_clauses.l0] at H
       by_cases c17 : x6_3 > 0
       ·rw [if_pos c17] at H
        have c17b0 : decide (0 < x6_3) = true := decide_eq_true c17
        clear c17
        replace H := Option.bind_eq_some_iff.mp H
        obtain ⟨⟨t310, t311, t312⟩, A180, H⟩ := H
        replace H : (spec_l1Cur_clauses.l1 k3 x4_3 x5_3 x6_3 ([] : List Int) (wrap64 (1 + t310)) s0_0 t311 t312) = some (r1, r2, r3, r4) := H
        have A18 := am_ A180
        clear A180
        have H' := am_ H
        clear H
        go_wp2_with (first | ((with_reducible refine gl_ 81 rfl ?_); refine goesM_ (some 28) Try.func81 #[.pointer (some ⟨g, 0, none⟩), .int .i64 3] ?_; (with_reducible refine (spec_l1Cur_pick.calls g s0_0 x1001_3 x1002_3 3 t310 t311 t312 w0 _ ?side1 ?side2 A18.out).mono ?_); (case side1 => repeat (first | (with_reducible first | exact HI0.out | apply IsS95.alloc | apply IsS95.drewN | apply IsS95.drew | apply IsS95.set_1 | apply IsS95.set_2) | exact HI0.out)); (case side2 => repeat (first | (with_reducible first | exact HB.out | apply below_alloc | apply pw_below_drewN | apply below_drew1 | refine below_set ?_ (IsS95.ge HI0.out)) | exact HB.out)); rintro e w19 ⟨rfl, hi, hb, hk⟩; refine ⟨_, rfl, ?_⟩; replace HO_5 := am_ (Kd.S_mono (Kd.S_keep (IsS95.apartS (show IsS95 w0 _ g s0_0 x1001_3 x1002_3 from by repeat (first | (with_reducible first | exact HI0.out | apply IsS95.alloc | apply IsS95.drewN | apply IsS95.drew | apply IsS95.set_1 | apply IsS95.set_2) | exact HI0.out)) (sq_ HO_5.out) (by decide)) hk (fun _ h => h.2)) (fun _ h => h.1)); replace HK := am_ (KeepBut.trans y14_ hk (.inl rfl)); replace HB := am_ (hb); replace HI0 := am_ (hi); (try clear hb); (try clear hk); (try clear hi)))
        go_loopg [7, 8] k3 (fun kq v7 v8 w' => ∃ (x7_4 : List Int) (x8_4 : Int) (x1001_4 : Int) (x1002_4 : Int), v8 = .int .i64 x8_4 ∧ Aside0 (spec_l1Cur_clauses.l1 kq x4_3 x5_3 x6_3 x7_4 x8_4 s0_0 x1001_4 x1002_4 = some (r1, r2, r3, r4)) ∧ Aside0 (kq ≤ k3) ∧ Aside0 (Kd.S (Kd.slice 3 (Kd.int .i64)) 88 w' w.heap.size (fun k_ => some k_ ≠ (v7 : Value).ownBlock) u5 x5_3) ∧ Aside0 (Kd.R (Kd.int .i64) 3 w' w.heap.size (fun _ => True) v7 x7_4) ∧ Aside0 (IsS95 w0 w' g s0_0 x1001_4 x1002_4) ∧ Aside0 (KeepBut w w' g none) ∧ Aside0 (Below w0.heap.size w0 w'))
        case atStart => exact ⟨(([] : List Int)), (wrap64 (1 + t310)), (t311), (t312), y30_, H', ⟨Nat.le_refl _⟩, ⟨by (with_reducible repeat (first | apply Kd.S_alloc | apply Kd.S_drewN | apply Kd.S_drew)); exact Kd.S_mono HO_5.out (fun _ hk => (by simp [Value.ownBlock]))⟩, ⟨by first | exact Kd.R_nil _ _ _ _ _ | exact Kd.N_nil _ _ _ _ _ | exact Kd.V_nil _ _ _ _ _ | exact Kd.Q_nil _ _ _ _ _ | exact Kd.S_nil _ _ _ _ _⟩, ⟨by repeat (first | (with_reducible first | exact HI0.out | apply IsS95.alloc | apply IsS95.drewN | apply IsS95.drew | apply IsS95.set_1 | apply IsS95.set_2) | exact HI0.out)⟩, ⟨by repeat (first | (with_reducible first | exact HK.out | apply KeepBut.set_ | apply keep_drewN | apply keep_drew | apply keep_alloc) | exact HK.out)⟩, ⟨by repeat (first | (with_reducible first | exact HB.out | apply below_alloc | apply pw_below_drewN | apply below_drew1 | refine below_set ?_ (IsS95.ge HI0.out)) | exact HB.out)⟩⟩
        case round =>
         clear H'
         try clear c1
         try clear p2
         try clear p6
         try clear c7
         try clear c8
         try clear c10
         try clear c11
         try clear c16
         try clear c16b0
         try clear c16b1
         try clear c17
         try clear c17b0
         try clear p2
         try clear p6
         obtain ⟨x7_4, x8_4, x1001_4, x1002_4, rfl, HA, HK4, HO_5, HO_7, HI0, HK, HB⟩ := hrel
         cases gk with
         | zero => exact absurd HA.out (by simp [spec_l1Cur_clauses.l1])
         | succ k4 =>
          have H := HA.out
          clear HA
          simp only [spec_l1Cur_clauses.l1] at H
          by_cases c20 : x8_4 > 0
          ·rw [if_pos c20] at H
           have c20b0 : decide (0 < x8_4) = true := decide_eq_true c20
           clear c20
           replace H := Option.bind_eq_some_iff.mp H
           obtain ⟨⟨t313, t314, t315⟩, A210, H⟩ := H
           replace H : (if x7_4.length < 17592186044416 then (spec_l1Cur_clauses.l1 k4 x4_3 x5_3 x6_3 (x7_4 ++ [t313]) (wrap64 (x8_4 - 1)) s0_0 t314 t315) else (none)) = some (r1, r2, r3, r4) := H
           have A21 := am_ A210
           clear A210
           by_cases c22 : x7_4.length < 17592186044416
           ·rw [if_pos c22] at H
            have LMc22 := am_ c22
            clear c22
            obtain ⟨y316, hy316⟩ : ∃ y_ : List Int, y_ = (x7_4 ++ [t313]) := ⟨_, rfl⟩
            replace H : (spec_l1Cur_clauses.l1 k4 x4_3 x5_3 x6_3 y316 (wrap64 (x8_4 - 1)) s0_0 t314 t315) = some (r1, r2, r3, r4) := by first | (rw [hy316]; with_reducible exact H) | (have H2_ := (Option.bind_some _ _).symm.trans H; rw [hy316]; with_reducible exact H2_) | (have H2_ := (Option.bind_some _ _).symm.trans H; with_reducible exact H2_) | with_reducible exact H | (rw [hy316]; exact H) | exact H
            have Ny316 := am_ hy316
            clear hy316
            have H' := am_ H
            clear H
            go_wp2_with (first | ((with_reducible refine gl_ 112 rfl ?_); refine goesM_ (some 37) Try.func112 #[.pointer (some ⟨g, 0, none⟩), .int .i64 x4_3] ?_; (with_reducible refine (spec_l1Cur_lit.calls g s0_0 x1001_4 x1002_4 x4_3 t313 t314 t315 w0 _ ?side1 ?side2 A21.out).mono ?_); (case side1 => repeat (first | (with_reducible first | exact HI0.out | apply IsS95.alloc | apply IsS95.drewN | apply IsS95.drew | apply IsS95.set_1 | apply IsS95.set_2) | exact HI0.out)); (case side2 => repeat (first | (with_reducible first | exact HB.out | apply below_alloc | apply pw_below_drewN | apply below_drew1 | refine below_set ?_ (IsS95.ge HI0.out)) | exact HB.out)); rintro e w23 ⟨rfl, hi, hb, hk⟩; refine ⟨_, rfl, ?_⟩; replace HO_5 := am_ (Kd.S_mono (Kd.S_keep (IsS95.apartS (show IsS95 w0 _ g s0_0 x1001_4 x1002_4 from by repeat (first | (with_reducible first | exact HI0.out | apply IsS95.alloc | apply IsS95.drewN | apply IsS95.drew | apply IsS95.set_1 | apply IsS95.set_2) | exact HI0.out)) (sq_ HO_5.out) (by decide)) hk (fun _ h => h.2)) (fun _ h => h.1)); replace HO_7 := am_ (Kd.R_mono (Kd.R_keep (IsS95.apart (show IsS95 w0 _ g s0_0 x1001_4 x1002_4 from by repeat (first | (with_reducible first | exact HI0.out | apply IsS95.alloc | apply IsS95.drewN | apply IsS95.drew | apply IsS95.set_1 | apply IsS95.set_2) | exact HI0.out)) (rq_ HO_7.out) (by decide)) hk (fun _ h => h.2)) (fun _ h => h.1)); replace HK := am_ (KeepBut.trans y14_ hk (.inl rfl)); replace HB := am_ (hb); replace HI0 := am_ (hi); (try clear hb); (try clear hk); (try clear hi)) | ((with_reducible refine gate_builtin (b := .append) (xs := #[.tmp 34, .tmp 38]) rfl ?_); at_builtin; refine Kd.R_append (Kd.int .i64) w.heap.size rfl (.tmp 34) (.tmp 38) 88 3 (.int .i64 0) 8 rfl Try.underlying88 info3 rfl (by decide) (by omega) u7 x7_4 t313 [.int .i64 t313] (fun _ => True) (fun _ => False) rfl rfl ?aP (fun _ hk => hk.elim) ?aF ?aO (Below.refl _ _) ?aS ?aL ?_; (case aP => exact rfl); (case aF => exact (fun _ _ => trivial)); (case aO => exact (rq_ HO_7.out)); (case aS => exact (keep_size (w := w) (g := g) (row := none) y14_)); (case aL => have := LMc22.out; omega); intro v317 w24 ho hb hg hat; rw [← Ny316.out] at ho; replace HO_5 := am_ (Kd.S_after (ok := (fun _ => True)) (by (with_reducible repeat (first | apply Kd.S_alloc | apply Kd.S_drewN | apply Kd.S_drew)); exact Kd.S_mono HO_5.out (fun _ hk => ⟨trivial, hk⟩)) hg hat); replace HB := am_ (below_weaken y12_ HL.out hb); replace HI0 := am_ (IsS95.grown y13_ hg (IsS95.own_ne HI0.out HO_7.out (by decide))); replace HK := am_ (KeepBut.trans y14_ (KeepBut.of_grown hg g) (Kd.R_base2 HO_7.out)); have HO318 := am_ (ho); clear HO_7; clear ho hb hg hat))
            go_roundg k4
            case measure => have := HJ3.out; have := HJ13.out; have := HK3.out; have := HK4.out; omega
            case rel => exact ⟨(y316), (wrap64 (x8_4 - 1)), (t314), (t315), y30_, H', ⟨by have := HJ3.out; have := HJ13.out; have := HK3.out; have := HK4.out; omega⟩, ⟨by (with_reducible repeat (first | apply Kd.S_alloc | apply Kd.S_drewN | apply Kd.S_drew)); exact Kd.S_mono HO_5.out (fun _ hk => hk.2)⟩, ⟨rq_ HO318.out⟩, ⟨by repeat (first | (with_reducible first | exact HI0.out | apply IsS95.alloc | apply IsS95.drewN | apply IsS95.drew | apply IsS95.set_1 | apply IsS95.set_2) | exact HI0.out)⟩, ⟨by repeat (first | (with_reducible first | exact HK.out | apply KeepBut.set_ | apply keep_drewN | apply keep_drew | apply keep_alloc) | exact HK.out)⟩, ⟨by repeat (first | (with_reducible first | exact HB.out | apply below_alloc | apply pw_below_drewN | apply below_drew1 | refine below_set ?_ (IsS95.ge HI0.out)) | exact HB.out)⟩⟩
           ·rw [if_neg c22] at H
            exact absurd H (by simp)
          ·rw [if_neg c20] at H
           have c20b0 : decide (0 < x8_4) = false := decide_eq_false c20
           clear c20
           replace H := Option.bind_eq_some_iff.mp H
           obtain ⟨⟨t319, t320⟩, A250, H⟩ := H
           replace H : (if t320 = true then (if x5_3.length < 5864062014805 then (spec_l1Cur_clauses.l0 k4 x4_3 (x5_3 ++ [t319]) (wrap64 (x6_3 - 1)) s0_0 x1001_4 x1002_4) else (none)) else (spec_l1Cur_clauses.l0 k4 x4_3 x5_3 (wrap64 (x6_3 - 1)) s0_0 x1001_4 x1002_4)) = some (r1, r2, r3, r4) := H
           have A25 := am_ A250
           clear A250
           by_cases c26 : t320 = true
           ·subst c26
            have H1 : (if x5_3.length < 5864062014805 then (spec_l1Cur_clauses.l0 k4 x4_3 (x5_3 ++ [t319]) (wrap64 (x6_3 - 1)) s0_0 x1001_4 x1002_4) else (none)) = some (r1, r2, r3, r4) := by rw [if_pos rfl] at H; exact H
            clear H
            have H := H1
            clear H1
            by_cases c27 : x5_3.length < 5864062014805
            ·rw [if_pos c27] at H
             have LMc27 := am_ c27
             clear c27
             obtain ⟨y323, hy323⟩ : ∃ y_ : List (List Int), y_ = (x5_3 ++ [t319]) := ⟨_, rfl⟩
             replace H : (spec_l1Cur_clauses.l0 k4 x4_3 y323 (wrap64 (x6_3 - 1)) s0_0 x1001_4 x1002_4) = some (r1, r2, r3, r4) := by first | (rw [hy323]; with_reducible exact H) | (have H2_ := (Option.bind_some _ _).symm.trans H; rw [hy323]; with_reducible exact H2_) | (have H2_ := (Option.bind_some _ _).symm.trans H; with_reducible exact H2_) | with_reducible exact H | (rw [hy323]; exact H) | exact H
             have Ny323 := am_ hy323
             clear hy323
             have H' := am_ H
             clear H
             obtain ⟨Ao28, co28, eo28⟩ := Kd.R_slice HO_7.out
             subst eo28
             go_wp2_with (first | ((with_reducible refine gl_ 113 rfl ?_); refine goesM_ (some 42) Try.func113 #[.slice Ao28 x7_4.length co28] ?_; (with_reducible refine (spec_CleanClause.calls k4 _ _ x7_4 t319 true _ ?side1 ?side2 A25.out).mono ?_); (case side1 => exact cm_ (Kd.R_reads' HO_7.out).2.2); (case side2 => exact (Kd.R_reads' HO_7.out).2.1); rintro e w29 ⟨v321, rfl, ho0, hb⟩; refine ⟨_, rfl, ?_⟩; replace HO_5 := am_ (Kd.S_elder' (sq_ HO_5.out) (Kd.R_base ho0) hb); have HO322 := am_ (Kd.R_lower (Kd.R_new' ho0 (Kd.R_lt (rq_ HO_7.out))) (keep_size (w := w) (g := g) (row := none) y14_)); replace HO_7 := am_ (Kd.R_elder' (rq_ HO_7.out) (Kd.R_base ho0) hb); replace HK := am_ (KeepBut.trans y14_ (KeepBut.of_below hb g none) (.inl rfl)); replace HB := am_ (below_step y12_ hb); replace HI0 := am_ (IsS95.below y13_ hb); (try clear hb); (try clear hk); (try clear ho0); obtain ⟨Ao31, co31, eo31⟩ := Kd.R_slice HO322.out; subst eo31) | ((with_reducible refine gate_builtin (b := .append) (xs := #[.tmp 46, .tmp 48]) rfl ?_); at_builtin; refine Kd.S_append (Kd.slice 3 (Kd.int .i64)) w.heap.size rfl (.tmp 46) (.tmp 48) 50 88 (.slice none 0 0) 24 rfl Try.underlying50 info88 rfl (by decide) (by omega) u5 x5_3 t319 [.slice Ao31 t319.length co31] (fun k_ => some k_ ≠ (.slice Ao28 x7_4.length co28 : Value).ownBlock) (fun k_ => some k_ = (.slice Ao31 t319.length co31 : Value).ownBlock) rfl rfl ?aP (fun k_ hk_ => ((Kd.R_mono (ok' := fun k_ => ((fun k_ => some k_ ≠ (.slice Ao28 x7_4.length co28 : Value).ownBlock)) k_ ∧ some k_ ≠ (u5 : Value).ownBlock) (Kd.R_apart' (HO322.out) (Kd.S_typed HO_5.out) (by decide)) (fun k_ hk => ⟨hk.1.2, hk.2⟩))).1 k_ hk_.symm) ?aF ?aO (Below.refl _ _) ?aS ?aL ?_; (case aP => exact Kd.M_row (Kd.R_mono (Kd.R_tight rfl (Kd.R_mono (ok' := fun k_ => ((fun k_ => some k_ ≠ (.slice Ao28 x7_4.length co28 : Value).ownBlock)) k_ ∧ some k_ ≠ (u5 : Value).ownBlock) (Kd.R_apart' (HO322.out) (Kd.S_typed HO_5.out) (by decide)) (fun k_ hk => ⟨hk.1.2, hk.2⟩))) (fun _ h_ => h_))); (case aF => exact (fun k_ hk => Kd.fresh' (Kd.R_lt (rq_ HO_7.out)) k_ hk)); (case aO => exact (by (with_reducible repeat (first | apply Kd.S_alloc | apply Kd.S_drewN | apply Kd.S_drew)); exact Kd.S_mono HO_5.out (fun k_ hk => ⟨hk.1, fun e_ => hk.2 e_⟩))); (case aS => exact (keep_size (w := w) (g := g) (row := none) y14_)); (case aL => have := LMc27.out; omega); intro v324 w30 ho hb hg hat; rw [← Ny323.out] at ho; replace HO_7 := am_ (Kd.R_over' (rq_ HO_7.out) (Kd.S_typed (sq_ HO_5.out)) (by decide) hg); replace HB := am_ (below_weaken y12_ HL.out hb); replace HI0 := am_ (IsS95.grown y13_ hg (IsS95.own_neS HI0.out HO_5.out (by decide))); replace HK := am_ (KeepBut.trans y14_ (KeepBut.of_grown hg g) (Kd.S_base2 HO_5.out)); have HO325 := am_ (ho); clear HO_5 HO322; clear ho hb hg hat))
             go_roundg k4
             case measure => have := HJ3.out; have := HJ13.out; have := HK3.out; have := HK4.out; omega
             case rel => exact ⟨(y323), (wrap64 (x6_3 - 1)), (x1001_4), (x1002_4), y30_, H', ⟨by have := HJ3.out; have := HJ13.out; have := HK3.out; have := HK4.out; omega⟩, ⟨by (with_reducible repeat (first | apply Kd.S_alloc | apply Kd.S_drewN | apply Kd.S_drew)); exact Kd.S_mono HO325.out (fun _ hk => trivial)⟩, ⟨by repeat (first | (with_reducible first | exact HI0.out | apply IsS95.alloc | apply IsS95.drewN | apply IsS95.drew | apply IsS95.set_1 | apply IsS95.set_2) | exact HI0.out)⟩, ⟨by repeat (first | (with_reducible first | exact HK.out | apply KeepBut.set_ | apply keep_drewN | apply keep_drew | apply keep_alloc) | exact HK.out)⟩, ⟨by repeat (first | (with_reducible first | exact HB.out | apply below_alloc | apply pw_below_drewN | apply below_drew1 | refine below_set ?_ (IsS95.ge HI0.out)) | exact HB.out)⟩⟩
            ·rw [if_neg c27] at H
             exact absurd H (by simp)
           ·replace c26 := Bool.eq_false_iff.mpr c26
            subst c26
            have H1 : (spec_l1Cur_clauses.l0 k4 x4_3 x5_3 (wrap64 (x6_3 - 1)) s0_0 x1001_4 x1002_4) = some (r1, r2, r3, r4) := by rw [if_neg (show ¬ (false = true) by decide)] at H; exact H
            clear H
            have H := H1
            clear H1
            have H' := am_ H
            clear H
            obtain ⟨Ao32, co32, eo32⟩ := Kd.R_slice HO_7.out
            subst eo32
            go_wp2_with (first | ((with_reducible refine gl_ 113 rfl ?_); refine goesM_ (some 42) Try.func113 #[.slice Ao32 x7_4.length co32] ?_; (with_reducible refine (spec_CleanClause.calls k4 _ _ x7_4 t319 false _ ?side1 ?side2 A25.out).mono ?_); (case side1 => exact cm_ (Kd.R_reads' HO_7.out).2.2); (case side2 => exact (Kd.R_reads' HO_7.out).2.1); rintro e w33 ⟨v321, rfl, ho0, hb⟩; refine ⟨_, rfl, ?_⟩; replace HO_5 := am_ (Kd.S_elder' (sq_ HO_5.out) (Kd.R_base ho0) hb); have HO322 := am_ (Kd.R_lower (Kd.R_new' ho0 (Kd.R_lt (rq_ HO_7.out))) (keep_size (w := w) (g := g) (row := none) y14_)); replace HO_7 := am_ (Kd.R_elder' (rq_ HO_7.out) (Kd.R_base ho0) hb); replace HK := am_ (KeepBut.trans y14_ (KeepBut.of_below hb g none) (.inl rfl)); replace HB := am_ (below_step y12_ hb); replace HI0 := am_ (IsS95.below y13_ hb); (try clear hb); (try clear ho0)))
            go_roundg k4
            case measure => have := HJ3.out; have := HJ13.out; have := HK3.out; have := HK4.out; omega
            case rel => exact ⟨(x5_3), (wrap64 (x6_3 - 1)), (x1001_4), (x1002_4), y30_, H', ⟨by have := HJ3.out; have := HJ13.out; have := HK3.out; have := HK4.out; omega⟩, ⟨by (with_reducible repeat (first | apply Kd.S_alloc | apply Kd.S_drewN | apply Kd.S_drew)); exact Kd.S_mono HO_5.out (fun _ hk => trivial)⟩, ⟨by repeat (first | (with_reducible first | exact HI0.out | apply IsS95.alloc | apply IsS95.drewN | apply IsS95.drew | apply IsS95.set_1 | apply IsS95.set_2) | exact HI0.out)⟩, ⟨by repeat (first | (with_reducible first | exact HK.out | apply KeepBut.set_ | apply keep_drewN | apply keep_drew | apply keep_alloc) | exact HK.out)⟩, ⟨by repeat (first | (with_reducible first | exact HB.out | apply below_alloc | apply pw_below_drewN | apply below_drew1 | refine below_set ?_ (IsS95.ge HI0.out)) | exact HB.out)⟩⟩
       ·rw [if_neg c17] at H
        have c17b0 : decide (0 < x6_3) = false := decide_eq_false c17
        clear c17
        by_cases c34 : (x5_3.length : Int) > 0
        ·rw [if_pos c34] at H
         have c34b0 : decide (0 < (x5_3.length : Int)) = true := decide_eq_true c34
         have c34b1 : decide (0 < x5_3.length) = true := decide_eq_true (by omega)
         clear c34
         replace H := Option.bind_eq_some_iff.mp H
         obtain ⟨⟨t326, t327, t328⟩, A350, H⟩ := H
         replace H : (if t326 = true then (if 0 < (x5_3.length : Int) then ((spec_l1Cur_among.f s0_0 t327 t328 (([0, 13, 1] : List Int))).bind fun bt333 => (if (rd_L6 x5_3 0).length < 17592186044416 then (some (x4_3, (x5_3.set (0 : Int).toNat ((rd_L6 x5_3 0) ++ [bt333.1])), bt333.2.1, bt333.2.2)) else (none))) else (none)) else (some (x4_3, x5_3, t327, t328))) = some (r1, r2, r3, r4) := H
         have A35 := am_ A350
         clear A350
         by_cases c36 : t326 = true
         ·subst c36
          have H1 : (if 0 < (x5_3.length : Int) then ((spec_l1Cur_among.f s0_0 t327 t328 (([0, 13, 1] : List Int))).bind fun bt333 => (if (rd_L6 x5_3 0).length < 17592186044416 then (some (x4_3, (x5_3.set (0 : Int).toNat ((rd_L6 x5_3 0) ++ [bt333.1])), bt333.2.1, bt333.2.2)) else (none))) else (none)) = some (r1, r2, r3, r4) := by rw [if_pos rfl] at H; exact H
          clear H
          have H := H1
          clear H1
          by_cases c37 : 0 < (x5_3.length : Int)
          ·rw [if_pos c37] at H
           have c37b0 : decide (0 < (x5_3.length : Int)) = true := decide_eq_true c37
           have c37b1 : decide (0 < x5_3.length) = true := decide_eq_true (by omega)
           clear c37
           obtain ⟨y330, hy330⟩ : ∃ y_ : List Int, y_ = (([0, 13, 1] : List Int)) := ⟨_, rfl⟩
           replace H : ((spec_l1Cur_among.f s0_0 t327 t328 y330).bind fun bt333 => (if (rd_L6 x5_3 0).length < 17592186044416 then (some (x4_3, (x5_3.set (0 : Int).toNat ((rd_L6 x5_3 0) ++ [bt333.1])), bt333.2.1, bt333.2.2)) else (none))) = some (r1, r2, r3, r4) := by first | (rw [hy330]; with_reducible exact H) | (have H2_ := (Option.bind_some _ _).symm.trans H; rw [hy330]; with_reducible exact H2_) | (have H2_ := (Option.bind_some _ _).symm.trans H; with_reducible exact H2_) | with_reducible exact H | (rw [hy330]; exact H) | exact H
           have Ny330 := am_ hy330
           clear hy330
           replace H := Option.bind_eq_some_iff.mp H
           obtain ⟨⟨t333, t334, t335⟩, A380, H⟩ := H
           replace H : (if (rd_L6 x5_3 0).length < 17592186044416 then (some (x4_3, (x5_3.set (0 : Int).toNat ((rd_L6 x5_3 0) ++ [t333])), t334, t335)) else (none)) = some (r1, r2, r3, r4) := H
           have A38 := am_ A380
           clear A380
           by_cases c39 : (rd_L6 x5_3 0).length < 17592186044416
           ·rw [if_pos c39] at H
            have LMc39 := am_ c39
            clear c39
            obtain ⟨y336, hy336⟩ : ∃ y_ : List Int, y_ = ((rd_L6 x5_3 0) ++ [t333]) := ⟨_, rfl⟩
            replace H : (some (x4_3, (x5_3.set (0 : Int).toNat y336), t334, t335)) = some (r1, r2, r3, r4) := by first | (rw [hy336]; with_reducible exact H) | (have H2_ := (Option.bind_some _ _).symm.trans H; rw [hy336]; with_reducible exact H2_) | (have H2_ := (Option.bind_some _ _).symm.trans H; with_reducible exact H2_) | with_reducible exact H | (rw [hy336]; exact H) | exact H
            have Ny336 := am_ hy336
            clear hy336
            obtain ⟨y339, hy339⟩ : ∃ y_ : List (List Int), y_ = (x5_3.set (0 : Int).toNat y336) := ⟨_, rfl⟩
            replace H : (some (x4_3, y339, t334, t335)) = some (r1, r2, r3, r4) := by first | (rw [hy339]; with_reducible exact H) | (have H2_ := (Option.bind_some _ _).symm.trans H; rw [hy339]; with_reducible exact H2_) | (have H2_ := (Option.bind_some _ _).symm.trans H; with_reducible exact H2_) | with_reducible exact H | (rw [hy339]; exact H) | exact H
            have Ny339 := am_ hy339
            clear hy339
            simp only [Option.some.injEq, Prod.mk.injEq] at H
            obtain ⟨rfl, rfl, rfl, rfl⟩ := H
            obtain ⟨Ao41, co41, eo41⟩ := Kd.S_slice HO_5.out
            subst eo41
            try go_wp2_with (first | (go_at_call 82; (with_reducible refine (spec_l1Cur_one.calls g s0_0 x1001_3 x1002_3 30 true t327 t328 w0 _ ?side1 ?side2 A35.out).mono ?_); (case side1 => repeat (first | (with_reducible first | exact HI0.out | apply IsS95.alloc | apply IsS95.drewN | apply IsS95.drew | apply IsS95.set_1 | apply IsS95.set_2) | exact HI0.out)); (case side2 => repeat (first | (with_reducible first | exact HB.out | apply below_alloc | apply pw_below_drewN | apply below_drew1 | refine below_set ?_ (IsS95.ge HI0.out)) | exact HB.out)); rintro e w42 ⟨rfl, hi, hb, hk⟩; replace HO_5 := am_ (Kd.S_mono (Kd.S_keep (IsS95.apartS (show IsS95 w0 _ g s0_0 x1001_3 x1002_3 from by repeat (first | (with_reducible first | exact HI0.out | apply IsS95.alloc | apply IsS95.drewN | apply IsS95.drew | apply IsS95.set_1 | apply IsS95.set_2) | exact HI0.out)) (sq_ HO_5.out) (by decide)) hk (fun _ h => h.2)) (fun _ h => h.1)); replace HK := am_ (KeepBut.trans y14_ hk (.inl rfl)); replace HB := am_ (hb); replace HI0 := am_ (hi); (try clear hb); (try clear hk); (try clear hi)))
            replace HO_5 := am_ (Kd.S_drew HO_5.out)
            replace HI0 := am_ (IsS95.drew HI0.out)
            replace HK := am_ (keep_drew HK.out)
            replace HB := am_ (below_drew1 HB.out)
            have p329 : 0 ≤ (0 : Int) := (by omega)
            have q329 : 0 < (x5_3.length : Int) := od_
            obtain ⟨ad329, A329_0, c329_0, e329, hx329_0, hl329_0, hi329_0⟩ := at_L6 (Kd.S_reads' HO_5.out).2.2 0 p329 q329
            cases e329
            obtain ⟨ce329, hce329, hMe329, hcc329⟩ := Kd.S_get HO_5.out [] 0 p329 (by first | exact q329 | exact od_ | (have e_ := (Kd.S_reads' HO_5.out).1; omega))
            obtain ⟨ve329_0, rfl, ge329_0⟩ := hMe329
            have hv329_0 := hcc329 0 _ rfl
            rw [Nat.add_zero, show ((Kd.slice 3 (Kd.int .i64))).sz = 1 from rfl, Nat.mul_one] at hv329_0
            replace hv329_0 := Option.some.inj (hv329_0.symm.trans hx329_0)
            rw [hv329_0] at ge329_0
            have HL329_0 := am_ (show Kd.R (Kd.int .i64) 3 _ _ _ _ (rd_L6 x5_3 0) from ge329_0)
            clear hv329_0 ge329_0
            have HX329_0 := am_ hx329_0
            clear hcc329 hce329
            have qi329 : (0 < x5_3.length) = True := eq_true (by omega)
            (try rw [show ((0 : Int)).toNat = 0 from rfl] at hx329_0)
            (try rw [Addr.add_zero'] at hx329_0)
            have HR329_0 := am_ hi329_0
            have HC329_0 := am_ hl329_0
            clear hi329_0 hl329_0
            replace p329 := eq_true p329
            replace q329 := eq_true q329
            refine start_ (n := 11) (S := fun w' => w'.cell? ad329 = some (.slice A329_0 (rd_L6 x5_3 0).length c329_0)) (ds := [10]) #[false, false, false, false, false, false, false, false, false, false, false] (by kernel_rfl) rfl rfl (hx329_0) (fun hHeld => ?_); refine with_tabW spec_l1Cur_clauses.tab19 spec_l1Cur_clauses.bits19 (fun HT_ HW_ => ?_)
            generalize w42.drew = w43 at HO_5 HI0 HK HB HL329_0 HR329_0 HX329_0 hx329_0 hHeld ⊢
            refine pure_ (i := 0) (N := some 57) (v := ?_) (a' := ?_) #[true, false, false, false, false, false, false, false, false, false, false] rfl rfl (any_of HT_.out (by kernel_rfl)) (fun _ _ _ h => h) (Or.inl ⟨by rfl, ?_⟩) ?_ ?_
            rotate_left
            ·intro w'
             go_simp
             with_reducible rfl
            rotate_left
            ·simp only [Act.put, List.setIfInBounds_toArray, List.set_cons_zero, List.set_cons_succ, i64_w, i32_w]
             rfl
            refine pure_ (i := 1) (N := some 58) (v := ?_) (a' := ?_) #[true, true, false, false, false, false, false, false, false, false, false] rfl rfl (any_of HT_.out (by kernel_rfl)) (fun _ _ _ h => h) (Or.inl ⟨by rfl, ?_⟩) ?_ ?_
            rotate_left
            ·intro w'
             go_simp
             with_reducible rfl
            rotate_left
            ·simp only [Act.put, List.setIfInBounds_toArray, List.set_cons_zero, List.set_cons_succ, i64_w, i32_w]
             rfl
            refine pure_ (i := 2) (N := some 59) (v := ?_) (a' := ?_) #[true, true, true, false, false, false, false, false, false, false, false] rfl rfl (any_of HT_.out (by kernel_rfl)) (fun _ _ _ h => h) (Or.inl ⟨by rfl, ?_⟩) ?_ ?_
            rotate_left
            ·intro w'
             go_simp
             with_reducible rfl
            rotate_left
            ·simp only [Act.put, List.setIfInBounds_toArray, List.set_cons_zero, List.set_cons_succ, i64_w, i32_w]
             rfl
            refine pure_ (i := 4) (N := some 61) (v := ?_) (a' := ?_) #[true, true, true, false, true, false, false, false, false, false, false] rfl rfl (any_of HT_.out (by kernel_rfl)) (fun _ _ _ h => h) (Or.inl ⟨by rfl, ?_⟩) ?_ ?_
            rotate_left
            ·intro w'
             go_simp
             with_reducible rfl
            rotate_left
            ·simp only [Act.put, List.setIfInBounds_toArray, List.set_cons_zero, List.set_cons_succ, i64_w, i32_w]
             rfl
            refine take_ (i := 3) (N := some 60) (v := ?_) (a' := ?_) #[true, true, true, true, true, false, false, false, false, false, false] rfl rfl (take_ofW HT_.out HW_.out (by kernel_rfl)) (fun _ _ _ h => h) (Or.inl ⟨by rfl, ?_⟩) hHeld ?_ ?_
            rotate_left
            ·intro w' s0
             go_simp
             with_reducible rfl
            rotate_left
            ·simp only [Act.put, List.setIfInBounds_toArray, List.set_cons_zero, List.set_cons_succ, i64_w, i32_w]
             rfl
            refine one_ (i := 5) (N := some 62) #[true, true, true, true, true, true, false, false, false, false, false] rfl rfl (one_of HT_.out (by kernel_rfl)) (by decide) (fun K hK => ?_)
            refine Kd.R_lit_step (Kd.int .i64) _ 3 ?hg (N := 62) ?hd (xs := ([0, 13, 1] : List Int)) (inner := [.int .i64 0, .int .i64 13, .int .i64 1]) (ok := fun _ => True) (okp := fun _ => True) ?hr ?hp (fun _ hk => hk) trivial (Below.refl _ _) (Nat.le_refl _) (by simp) ?_; (case hd => rfl); (case hg => rfl); (case hr => first | (go_simp; done) | (go_simp; rfl)); (case hp => exact (Reps.one (show Kd.M (Kd.int .i64) _ _ _ 0 [.int .i64 0] from rfl) (Reps.one (show Kd.M (Kd.int .i64) _ _ _ 13 [.int .i64 13] from rfl) (Reps.one (show Kd.M (Kd.int .i64) _ _ _ 1 [.int .i64 1] from rfl) (Reps.none _ _)))))
            intro v331 w44 ho45 hb hg_ hnew_
            have HS0_ := (hb.cell (World.block_lt_of_cell? _ _ (hHeld))).trans (hHeld)
            clear hg_ hnew_
            (first | rw [← Ny330.out] at ho45 | (simp only [Int.reduceToNat] at ho45; rw [← Ny330.out] at ho45))
            have n0_ := am_ (Kd.S_elder' (sq_ HO_5.out) (Kd.R_base ho45) hb)
            have n1_ := am_ (Kd.R_elder' (rq_ HL329_0.out) (Kd.R_base ho45) hb)
            have n2_ := am_ (Kd.R_lower (Kd.R_new' ho45 (Kd.R_lt (rq_ HL329_0.out))) (keep_size (w := w) (g := g) (row := none) y14_))
            have n3_ := am_ (IsS95.below y13_ hb)
            have n4_ := am_ (Kd.C_below (by repeat (first | (with_reducible exact HR329_0.out) | (with_reducible refine Kd.C_alloc ?_ _) | (with_reducible refine Kd.C_drewN ?_ _) | (with_reducible refine Kd.C_drew ?_) | exact HR329_0.out)) hb)
            have n5_ := am_ (pw_cell_below hb HX329_0.out)
            have n6_ := am_ (KeepBut.trans y14_ (KeepBut.of_below hb g none) (.inl rfl))
            have n7_ := am_ (below_step y12_ hb)
            clear HO_5 HL329_0 HI0 HR329_0 HX329_0 HK HB
            have HO_5 := n0_
            have HL329_0 := n1_
            have HO332 := n2_
            have HI0 := n3_
            have HR329_0 := n4_
            have HX329_0 := n5_
            have HK := n6_
            have HB := n7_
            clear n0_ n1_ n2_ n3_ n4_ n5_ n6_ n7_ hb ho45
            obtain ⟨Ao46, co46, eo46⟩ := Kd.R_slice HO332.out
            (first | subst eo46 | (injection eo46 with f1_ f2_ f3_; have f4_ := f1_.symm; have f5_ := f3_.symm; clear f1_ f2_ f3_; subst f4_; subst f5_))
            refine hK.out _ _ (HS0_) (fun hHeld => ?_)
            clear hK K
            refine norm_ (a' := ?_) ?_ ?_
            rotate_left
            ·show Act.put _ (some 62) _ = _
             simp only [Act.put, List.setIfInBounds_toArray, List.set_cons_zero, List.set_cons_succ, i64_w, i32_w]
             rfl
            refine one_ (i := 6) (N := some 63) #[true, true, true, true, true, true, true, false, false, false, false] rfl rfl (one_of HT_.out (by kernel_rfl)) (by decide) (fun K hK => ?_)
            refine goes_ Try.func111 (by kernel_rfl) rfl #[.pointer (some ⟨g, 0, none⟩), .slice Ao46 y330.length co46] (by rfl) rfl rfl y16_ ?_
            with_reducible refine (spec_l1Cur_among.calls g s0_0 t327 t328 _ _ y330 t333 t334 t335 w0 _ ?side1 ?side2 ?side3 ?side4 ?side5 A38.out).mono ?_
            (case side1 => repeat (first | (with_reducible first | exact HI0.out | apply IsS95.alloc | apply IsS95.drewN | apply IsS95.drew | apply IsS95.set_1 | apply IsS95.set_2) | exact HI0.out))
            (case side2 => repeat (first | (with_reducible first | exact HB.out | apply below_alloc | apply pw_below_drewN | apply below_drew1 | refine below_set ?_ (IsS95.ge HI0.out)) | exact HB.out))
            (case side3 => exact cm_ (Kd.R_reads' HO332.out).2.2)
            (case side4 => exact (Kd.R_reads' HO332.out).2.1)
            (case side5 => exact far_slice (IsS95.own_ne HI0.out HO332.out (by decide)))
            rintro e w47 ⟨rfl, hi, hb, hk⟩
            have HS0_ := keep_cell hk (hHeld) (by first | (rw [add_block]; exact Kd.own_blk (IsS95.own_neS HI0.out HO_5.out (by decide))) | (show (Addr.add _ _).block ≠ _; rw [add_block]; exact Kd.own_blk (IsS95.own_neS HI0.out HO_5.out (by decide))) | exact Kd.own_blk (IsS95.own_neS HI0.out HO_5.out (by decide)))
            refine ⟨_, rfl, ?_⟩
            have n0_ := am_ (Kd.S_mono (Kd.S_keep (IsS95.apartS (show IsS95 w0 _ g s0_0 t327 t328 from by repeat (first | (with_reducible first | exact HI0.out | apply IsS95.alloc | apply IsS95.drewN | apply IsS95.drew | apply IsS95.set_1 | apply IsS95.set_2) | exact HI0.out)) (sq_ HO_5.out) (by decide)) hk (fun _ h => h.2)) (fun _ h => h.1))
            have n1_ := am_ (Kd.R_mono (Kd.R_keep (IsS95.apart (show IsS95 w0 _ g s0_0 t327 t328 from by repeat (first | (with_reducible first | exact HI0.out | apply IsS95.alloc | apply IsS95.drewN | apply IsS95.drew | apply IsS95.set_1 | apply IsS95.set_2) | exact HI0.out)) (rq_ HL329_0.out) (by decide)) hk (fun _ h => h.2)) (fun _ h => h.1))
            have n2_ := am_ (keep_cell hk HX329_0.out (by first | (rw [add_block]; exact Kd.own_blk (IsS95.own_neS HI0.out HO_5.out (by decide))) | (show (Addr.add _ _).block ≠ _; rw [add_block]; exact Kd.own_blk (IsS95.own_neS HI0.out HO_5.out (by decide))) | exact Kd.own_blk (IsS95.own_neS HI0.out HO_5.out (by decide)) | (dsimp only; exact Kd.own_blk (IsS95.own_neS HI0.out HO_5.out (by decide)))))
            have n3_ := am_ (Kd.R_mono (Kd.R_keep (IsS95.apart (show IsS95 w0 _ g s0_0 t327 t328 from by repeat (first | (with_reducible first | exact HI0.out | apply IsS95.alloc | apply IsS95.drewN | apply IsS95.drew | apply IsS95.set_1 | apply IsS95.set_2) | exact HI0.out)) (rq_ HO332.out) (by decide)) hk (fun _ h => h.2)) (fun _ h => h.1))
            have n4_ := am_ (KeepBut.trans y14_ hk (.inl rfl))
            have n5_ := am_ (hb)
            have n6_ := am_ (hi)
            clear HO_5 HL329_0 HX329_0 HO332 HK HB HI0
            have HO_5 := n0_
            have HL329_0 := n1_
            have HX329_0 := n2_
            have HO332 := n3_
            have HK := n4_
            have HB := n5_
            have HI0 := n6_
            clear n0_ n1_ n2_ n3_ n4_ n5_ n6_
            (try clear hb)
            (try clear hb2)
            (try clear hk)
            (try clear hi)
            have n_ := am_ (Kd.S_mono (ok' := (fun k_ => some k_ ≠ (.slice Ao46 y330.length co46 : Value).ownBlock)) HO_5.out (fun k_ hk => hk.2))
            clear HO_5
            have HO_5 := n_
            clear n_
            obtain ⟨go48, co48, eo48, gb48, gl48, cl48, HG48⟩ := Kd.S_form HO_5.out (by have h_ : (0 : Int) < ((x5_3.length : Int) : Int) := od_; have h2_ : 0 ≤ (0 : Int) := (by omega); omega)
            (first | cases eo48 | (injection eo48 with ea_ en_ ec_; (first | subst ea_ | (injection ea_ with ea_; subst ea_)); subst ec_; clear en_))
            have GB48 := am_ gb48
            have GG48 := am_ HG48
            clear gb48 gl48 HG48
            (first | simp only [add_plain] at hx329_0 | skip)
            obtain ⟨oki48, ce48, hcl48, hM48, hcc48, _, _, hH48⟩ := Kd.S_elem HO_5.out [] (0 : Int) (by omega) (by have h_ : (0 : Int) < ((x5_3.length : Int) : Int) := od_; first | exact h_ | (have e_ := (Kd.S_reads' HO_5.out).1; omega) | simpa using h_)
            obtain ⟨ve48_0, rfl, ge48_0⟩ := hM48
            have hv48 := hcc48 0 _ rfl
            have hX48 := HX329_0.out
            (try simp only [add_plain] at hX48)
            (try simp only [Nat.add_zero] at hv48)
            (try rw [show ((Kd.slice 3 (Kd.int .i64))).sz = 1 from rfl, Nat.mul_one] at hv48)
            replace hv48 := Option.some.inj (hv48.symm.trans hX48)
            subst hv48
            clear hX48 hcc48 hcl48
            have UU48 := am_ (show Kd.R (Kd.int .i64) 3 _ w.heap.size oki48 (.slice A329_0 (rd_L6 x5_3 0).length c329_0) (rd_L6 x5_3 0) from ge48_0)
            have HH48 := am_ hH48
            have HN48 := am_ (Kd.S_reads' HO_5.out).1
            clear hH48 ge48_0
            refine hK.out _ _ (HS0_) (fun hHeld => ?_)
            clear hK K
            refine norm_ (a' := ?_) ?_ ?_
            rotate_left
            ·show Act.put _ (some 63) _ = _
             simp only [Act.put, List.setIfInBounds_toArray, List.set_cons_zero, List.set_cons_succ, i64_w, i32_w]
             rfl
            refine one_ (i := 7) (N := some 64) #[true, true, true, true, true, true, true, true, false, false, false] rfl rfl (one_of HT_.out (by kernel_rfl)) (by decide) (fun K hK => ?_)
            refine value_ (w1 := ?_) (v := ?_) (by rfl) rfl ?_ ?_
            rotate_left 2
            ·go_simp
             constructor
             ·rfl
             ·rfl
            refine hK.out _ _ ((World.cell?_alloc_lt _ _ _ (World.block_lt_of_cell? _ _ (hHeld))).trans (hHeld)) (fun hHeld => ?_)
            clear hK K
            refine norm_ (a' := ?_) ?_ ?_
            rotate_left
            ·show Act.put _ (some 64) _ = _
             simp only [Act.put, List.setIfInBounds_toArray, List.set_cons_zero, List.set_cons_succ, i64_w, i32_w]
             rfl
            refine one_ (i := 8) (N := some 65) #[true, true, true, true, true, true, true, true, true, false, false] rfl rfl (one_of HT_.out (by kernel_rfl)) (by decide) (fun K hK => ?_)
            refine Kd.R_append_step (Kd.int .i64) w.heap.size (by rfl) (.tmp 60) (.tmp 64) 88 3 (.int .i64 0) 8 rfl Try.underlying88 info3 rfl (by decide) (by omega) (.slice A329_0 (rd_L6 x5_3 0).length c329_0) (rd_L6 x5_3 0) t333 [.int .i64 t333] (fun k_ => oki48 k_ ∨ ((fun k_ => some k_ ≠ (.slice Ao46 y330.length co46 : Value).ownBlock)) k_ ∧ w47.heap.size ≤ k_) (fun _ => False) rfl rfl ?aP (fun _ hk => hk.elim) ?aF ?aO (Below.refl _ _) ?aS ?aL ?_
            (case aP => exact rfl)
            (case aF => exact (fun k_ hk => .inr ⟨Kd.fresh' (Kd.R_lt (rq_ HO332.out)) k_ hk, hk⟩))
            (case aO => exact (rq_ (Kd.R_mono UU48.out (fun _ hk => .inl hk))))
            (case aS => exact (keep_size (w := w) (g := g) (row := none) y14_))
            (case aL => have := LMc39.out; omega)
            intro v337 w49 ho hb hg hat
            (first | have HS0_ := cell_grown hg (hHeld) (by first | (rw [add_block]; exact (fun e_ => ((HL329_0.out.1 _ e_.symm).1.2) rfl)) | (show some (Addr.add _ _).block ≠ _; rw [add_block]; exact (fun e_ => ((HL329_0.out.1 _ e_.symm).1.2) rfl)) | exact (fun e_ => ((HL329_0.out.1 _ e_.symm).1.2) rfl)) | have HS0_ := cell_grown hg (cell_unalloc (hHeld) (by first | (rw [add_block]; exact Kd.S_lt HO_5.out _ rfl) | (show (Addr.add _ _).block < _; rw [add_block]; exact Kd.S_lt HO_5.out _ rfl) | exact Kd.S_lt HO_5.out _ rfl)) (by first | (rw [add_block]; exact (fun e_ => ((HL329_0.out.1 _ e_.symm).1.2) rfl)) | (show some (Addr.add _ _).block ≠ _; rw [add_block]; exact (fun e_ => ((HL329_0.out.1 _ e_.symm).1.2) rfl)) | exact (fun e_ => ((HL329_0.out.1 _ e_.symm).1.2) rfl)))
            rw [← Ny336.out] at ho
            have n0_ := am_ (IsS95.grown y13_ hg (IsS95.own_ne HI0.out HL329_0.out (by decide)))
            have n1_ := am_ (Kd.R_grown2 (rq_ HO332.out) rfl hg (fun k_ e_ => (HL329_0.out.1 k_ e_).2))
            have n2_ := am_ (below_weaken y12_ HL.out hb)
            have n3_ := am_ (KeepBut.trans y14_ (KeepBut.of_grown hg g) (Kd.R_base2 HL329_0.out))
            have n4_ := am_ (Kd.H_grown (Kd.H_widen (by repeat (first | exact HH48.out | refine Kd.H_alloc ?_ _ | refine Kd.H_drewN ?_ _ | refine Kd.H_drew ?_))) hg (fun k_ e_ => .inl (UU48.out.1 k_ e_)))
            have n5_ := am_ (ho)
            clear HI0 HO332 HB HK HH48 HO_5 UU48 HL329_0
            have HI0 := n0_
            have HO332 := n1_
            have HB := n2_
            have HK := n3_
            have HH48 := n4_
            have HO338 := n5_
            clear n0_ n1_ n2_ n3_ n4_ n5_ ho hb hg hat
            have p40 : 0 ≤ (0 : Int) := (by omega)
            have q40 : (0 : Int) < ((x5_3.length : Int) : Int) := od_
            replace p40 := eq_true p40
            replace q40 := eq_true q40
            obtain ⟨Ao52, co52, eo52⟩ := Kd.R_slice HO338.out
            (first | subst eo52 | (injection eo52 with f1_ f2_ f3_; have f4_ := f1_.symm; have f5_ := f3_.symm; clear f1_ f2_ f3_; subst f4_; subst f5_))
            obtain ⟨_, _, hraw50, _, _, hcc50, _⟩ := Kd.H_raw HH48.out (by omega) y17_
            obtain ⟨_, hfr50⟩ := Kd.H_at HH48.out (by omega) y17_
            have hx50_0 := hcc50 0 _ rfl
            have hf50_0 := hfr50 0
            (try simp only [Nat.add_zero] at hx50_0 hf50_0)
            (try rw [show ((Kd.slice 3 (Kd.int .i64))).sz = 1 from rfl, Nat.mul_one] at hx50_0)
            (try rw [show ((Kd.slice 3 (Kd.int .i64))).sz = 1 from rfl, Nat.mul_one] at hf50_0)
            (try rw [show ((0 : Int)).toNat = 0 from rfl] at hx50_0)
            (try simp only [Nat.reduceMul, Nat.zero_mul, Nat.zero_add, Nat.reduceAdd] at hx50_0)
            (try rw [show ((0 : Int)).toNat = 0 from rfl] at hf50_0)
            (try simp only [Nat.reduceMul, Nat.zero_mul, Nat.zero_add, Nat.reduceAdd] at hf50_0)
            have HP50 := Kd.S_seg0 HH48.out (by omega) y17_ (seg := [.slice Ao52 y336.length co52]) (j := 0) (show 1 ≤ 1 from by decide) (x' := y336) (Kd.M_row HO338.out) (fun _ hk => hk)
            (try simp only [show ((Kd.slice 3 (Kd.int .i64))).sz = 1 from rfl, Nat.mul_one, Nat.add_zero] at HP50)
            clear hcc50 hfr50
            have HN0_go48 := am_ (show g ≠ go48 from by have h_ := IsS95.own_ne HI0.out hraw50 (by decide); intro e_; exact h_ (by rw [e_]; rfl))
            have HS50 := HP50.1
            rw [← Ny339.out] at HS50
            have HQ50 := am_ HS50
            obtain ⟨_, hgg50⟩ := Kd.R_typed hraw50 go48 rfl
            have GG50_ := am_ hgg50
            clear HP50 HS50 hgg50
            refine hK.out _ _ (HS0_) (fun hHeld => ?_)
            clear hK K
            refine norm_ (a' := ?_) ?_ ?_
            rotate_left
            ·show Act.put _ (some 65) _ = _
             simp only [Act.put, List.setIfInBounds_toArray, List.set_cons_zero, List.set_cons_succ, i64_w, i32_w]
             rfl
            refine pure_ (i := 9) (N := some 66) (v := ?_) (a' := ?_) #[true, true, true, true, true, true, true, true, true, true, false] rfl rfl (any_of HT_.out (by kernel_rfl)) (fun _ _ _ h => h) (Or.inl ⟨by rfl, ?_⟩) ?_ ?_
            rotate_left
            ·intro w'
             go_simp
             with_reducible rfl
            rotate_left
            ·simp only [Act.put, List.setIfInBounds_toArray, List.set_cons_zero, List.set_cons_succ, i64_w, i32_w]
             rfl
            refine last_ (i := 10) (N := none) #[true, true, true, true, true, true, true, true, true, true, true] rfl rfl (one_of HT_.out (by kernel_rfl)) (by decide) (fun K hK => ?_)
            refine skip_ (w1 := ?_) (by rfl) rfl ?_ ?_
            rotate_left
            ·go_simp
             rfl
            refine hK.out _ _ ?_
            clear hK K
            refine done_ (done_of HT_.out (by kernel_rfl)) ?_
            try go_wp2
            go_ret2
            exact ⟨_, by first | rfl | (simp [errW_none, errW_some] <;> rfl) | (simp [*, errW_none, errW_some] <;> rfl), by (with_reducible repeat (first | apply Kd.S_alloc | apply Kd.S_drewN | apply Kd.S_drew)); exact Kd.S_mono HQ50.out (fun _ hk => trivial), by repeat (first | (with_reducible first | exact HI0.out | apply IsS95.alloc | apply IsS95.drewN | apply IsS95.drew | apply IsS95.set_1 | apply IsS95.set_2 | refine IsS95.far ?_ HN0_go48.out _) | exact HI0.out), by repeat (first | (with_reducible first | exact HB.out | apply below_alloc | apply pw_below_drewN | apply below_drew1 | refine below_set ?_ (Nat.le_trans HL.out GB48.out) | refine below_set ?_ (IsS95.ge HI0.out)) | exact HB.out), by repeat (first | (with_reducible first | exact HK.out | apply KeepBut.set_ | apply keep_drewN | apply keep_drew | apply keep_alloc | refine keep_far ?_ GB48.out _) | exact HK.out)⟩
           ·rw [if_neg c39] at H
            exact absurd H (by simp)
          ·rw [if_neg c37] at H
           exact absurd H (by simp)
         ·replace c36 := Bool.eq_false_iff.mpr c36
          subst c36
          have H1 : (some (x4_3, x5_3, t327, t328)) = some (r1, r2, r3, r4) := by rw [if_neg (show ¬ (false = true) by decide)] at H; exact H
          clear H
          have H := H1
          clear H1
          simp only [Option.some.injEq, Prod.mk.injEq] at H
          obtain ⟨rfl, rfl, rfl, rfl⟩ := H
          obtain ⟨Ao53, co53, eo53⟩ := Kd.S_slice HO_5.out
          subst eo53
          go_wp2_with (first | (go_at_call 82; (with_reducible refine (spec_l1Cur_one.calls g s0_0 x1001_3 x1002_3 30 false t327 t328 w0 _ ?side1 ?side2 A35.out).mono ?_); (case side1 => repeat (first | (with_reducible first | exact HI0.out | apply IsS95.alloc | apply IsS95.drewN | apply IsS95.drew | apply IsS95.set_1 | apply IsS95.set_2) | exact HI0.out)); (case side2 => repeat (first | (with_reducible first | exact HB.out | apply below_alloc | apply pw_below_drewN | apply below_drew1 | refine below_set ?_ (IsS95.ge HI0.out)) | exact HB.out)); rintro e w54 ⟨rfl, hi, hb, hk⟩; replace HO_5 := am_ (Kd.S_mono (Kd.S_keep (IsS95.apartS (show IsS95 w0 _ g s0_0 x1001_3 x1002_3 from by repeat (first | (with_reducible first | exact HI0.out | apply IsS95.alloc | apply IsS95.drewN | apply IsS95.drew | apply IsS95.set_1 | apply IsS95.set_2) | exact HI0.out)) (sq_ HO_5.out) (by decide)) hk (fun _ h => h.2)) (fun _ h => h.1)); replace HK := am_ (KeepBut.trans y14_ hk (.inl rfl)); replace HB := am_ (hb); replace HI0 := am_ (hi); (try clear hb); (try clear hk); (try clear hi)))
          go_ret2
          exact ⟨_, by first | rfl | (simp [errW_none, errW_some] <;> rfl) | (simp [*, errW_none, errW_some] <;> rfl), by (with_reducible repeat (first | apply Kd.S_alloc | apply Kd.S_drewN | apply Kd.S_drew)); exact HO_5.out, by repeat (first | (with_reducible first | exact HI0.out | apply IsS95.alloc | apply IsS95.drewN | apply IsS95.drew | apply IsS95.set_1 | apply IsS95.set_2) | exact HI0.out), by repeat (first | (with_reducible first | exact HB.out | apply below_alloc | apply pw_below_drewN | apply below_drew1 | refine below_set ?_ (IsS95.ge HI0.out)) | exact HB.out), by repeat (first | (with_reducible first | exact HK.out | apply KeepBut.set_ | apply keep_drewN | apply keep_drew | apply keep_alloc) | exact HK.out)⟩
        ·rw [if_neg c34] at H
         have c34b0 : decide (0 < (x5_3.length : Int)) = false := decide_eq_false c34
         have c34b1 : decide (0 < x5_3.length) = false := decide_eq_false (by omega)
         clear c34
         simp only [Option.some.injEq, Prod.mk.injEq] at H
         obtain ⟨rfl, rfl, rfl, rfl⟩ := H
         obtain ⟨Ao55, co55, eo55⟩ := Kd.S_slice HO_5.out
         subst eo55
         go_wp2
         go_ret2
         exact ⟨_, by first | rfl | (simp [errW_none, errW_some] <;> rfl) | (simp [*, errW_none, errW_some] <;> rfl), by (with_reducible repeat (first | apply Kd.S_alloc | apply Kd.S_drewN | apply Kd.S_drew)); exact HO_5.out, by repeat (first | (with_reducible first | exact HI0.out | apply IsS95.alloc | apply IsS95.drewN | apply IsS95.drew | apply IsS95.set_1 | apply IsS95.set_2) | exact HI0.out), by repeat (first | (with_reducible first | exact HB.out | apply below_alloc | apply pw_below_drewN | apply below_drew1 | refine below_set ?_ (IsS95.ge HI0.out)) | exact HB.out), by repeat (first | (with_reducible first | exact HK.out | apply KeepBut.set_ | apply keep_drewN | apply keep_drew | apply keep_alloc) | exact HK.out)⟩
def spec_DrawGoodClauses.f (k : Nat) (l0 : List Int) : Option (Int × (List (List Int))) := (spec_l1Cur_clauses.f k l0 0 0).bind fun bt341 => (some (bt341.1, bt341.2.1))
set_option maxHeartbeats 8000000 in
set_option maxRecDepth 100000 in
theorem spec_DrawGoodClauses.calls (k : Nat) (A0 : Option Addr) (c0 : Nat) (l0 : List Int) (r1 : Int) (r2 : List (List Int)) (w : World) (hr0 : Kd.C (Kd.int .u8) w A0 l0.length l0) (hc0 : l0.length ≤ c0) (h : spec_DrawGoodClauses.f k l0 = some (r1, r2)) :
  Calls Try.prog 88 #[.slice A0 l0.length c0] w fun e w' => ∃ v1_ : Value, e = .returned (.tuple #[.int .i64 r1, v1_]) ∧ Kd.S (Kd.slice 3 (Kd.int .i64)) 88 w' w.heap.size (fun _ => True) v1_ r2 ∧ Below w.heap.size w w' := by
 have hu95 := Try.underlying95
 have HR0 := am_ hr0
 have HC0 := am_ hc0
 clear hr0 hc0
 have HB := am_ (Below.refl w.heap.size w)
 have H : ((spec_l1Cur_clauses.f k l0 0 0).bind fun bt341 => (some (bt341.1, bt341.2.1))) = some (r1, r2) := h
 clear h
 replace H := Option.bind_eq_some_iff.mp H
 obtain ⟨⟨t341, t342, t345, t346⟩, A20, H⟩ := H
 replace H : (some (t341, t342)) = some (r1, r2) := H
 have A2 := am_ A20
 clear A20
 simp only [Option.some.injEq, Prod.mk.injEq] at H
 obtain ⟨rfl, rfl⟩ := H
 go_enter Try.func88, Try.ntmps88
 go_wp2_with (first | ((with_reducible refine gate_dst (N := 7) rfl ?_); refine boxq_ (N := 7) (cs := #[.slice A0 l0.length c0, .int .i64 0, .int .u64 0]) (t := 95) ?_; intro gb340 hg w3 hbox hb; have HI340 := am_ ((show IsS95 w w3 gb340 l0 0 0 from ⟨_, _, hbox, y34_, HR0.out⟩)); replace HB := bs_ hb; clear hb hbox hg) | ((with_reducible refine gl_ 101 rfl ?_); refine goesM_ (some 9) Try.func101 #[.pointer (some ⟨gb340, 0, none⟩)] ?_; (with_reducible refine (spec_l1Cur_clauses.calls k gb340 l0 0 0 t341 t342 t345 t346 w _ ?side1 ?side2 A2.out).mono ?_); (case side1 => repeat (first | (with_reducible first | exact HI340.out | apply IsS95.alloc | apply IsS95.drewN | apply IsS95.drew | apply IsS95.set_1 | apply IsS95.set_2) | exact HI340.out)); (case side2 => repeat (first | (with_reducible first | exact HB.out | apply below_alloc | apply pw_below_drewN | apply below_drew1 | refine below_set ?_ (IsS95.ge HI340.out)) | exact HB.out)); rintro e w4 ⟨v343, rfl, ho0, hi, hb, hk⟩; refine ⟨_, rfl, ?_⟩; have HO344 := am_ (Kd.S_lower ho0 (below_size (by repeat (first | (with_reducible first | exact HB.out | apply below_alloc | apply pw_below_drewN | apply below_drew1 | refine below_set ?_ (IsS95.ge HI340.out)) | exact HB.out)))); replace HB := am_ (hb); replace HI340 := am_ (hi); (try clear hb); (try clear hk); (try clear hi); (try clear ho0)))
 go_ret2
 exact ⟨_, by first | rfl | (simp [errW_none, errW_some] <;> rfl) | (simp [*, errW_none, errW_some] <;> rfl), by (with_reducible repeat (first | apply Kd.S_alloc | apply Kd.S_drewN | apply Kd.S_drew)); exact HO344.out, by repeat (first | (with_reducible first | exact HB.out | apply below_alloc | apply pw_below_drewN | apply below_drew1 | refine below_set ?_ (IsS95.ge HI340.out)) | exact HB.out)⟩
def spec_DrawByClauses.f (k : Nat) (l0 : List Int) : Option (Int × (List (List Int))) := (spec_DrawGoodClauses.f k l0).bind fun bt347 => (some (bt347.1, bt347.2))
set_option maxHeartbeats 8000000 in
set_option maxRecDepth 100000 in
theorem spec_DrawByClauses.calls (k : Nat) (A0 : Option Addr) (c0 : Nat) (l0 : List Int) (r1 : Int) (r2 : List (List Int)) (w : World) (hr0 : Kd.C (Kd.int .u8) w A0 l0.length l0) (hc0 : l0.length ≤ c0) (h : spec_DrawByClauses.f k l0 = some (r1, r2)) :
  Calls Try.prog 49 #[.slice A0 l0.length c0] w fun e w' => ∃ v1_ : Value, e = .returned (.tuple #[.int .i64 r1, v1_]) ∧ Kd.S (Kd.slice 3 (Kd.int .i64)) 88 w' w.heap.size (fun _ => True) v1_ r2 ∧ Below w.heap.size w w' := by
 have HR0 := am_ hr0
 have HC0 := am_ hc0
 clear hr0 hc0
 have HB := am_ (Below.refl w.heap.size w)
 have H : ((spec_DrawGoodClauses.f k l0).bind fun bt347 => (some (bt347.1, bt347.2))) = some (r1, r2) := h
 clear h
 replace H := Option.bind_eq_some_iff.mp H
 obtain ⟨⟨t347, t348⟩, A20, H⟩ := H
 replace H : (some (t347, t348)) = some (r1, r2) := H
 have A2 := am_ A20
 clear A20
 simp only [Option.some.injEq, Prod.mk.injEq] at H
 obtain ⟨rfl, rfl⟩ := H
 go_enter Try.func49, Try.ntmps49
 go_wp2_with (first | ((with_reducible refine gl_ 88 rfl ?_); refine goesM_ (some 5) Try.func88 #[.slice A0 l0.length c0] ?_; (with_reducible refine (spec_DrawGoodClauses.calls k _ _ l0 t347 t348 _ ?side1 ?side2 A2.out).mono ?_); (case side1 => exact cm_ HR0.out); (case side2 => exact HC0.out); rintro e w3 ⟨v349, rfl, ho0, hb⟩; refine ⟨_, rfl, ?_⟩; have HO350 := am_ (Kd.S_lower ho0 (below_size (bq_))); replace HB := bs_ hb; (try clear hb); (try clear ho0)))
 go_ret2
 exact ⟨_, by first | rfl | (simp [errW_none, errW_some] <;> rfl) | (simp [*, errW_none, errW_some] <;> rfl), by (with_reducible repeat (first | apply Kd.S_alloc | apply Kd.S_drewN | apply Kd.S_drew)); exact HO350.out, bq_⟩
end Go.Proofs.Ytpndhlcbfobelaa.PDX
