-- Made by myprint.py (this session's program, over the kit's print) for this claim. Lean checks it.
import Derived.Test.YtggddmpomdpdjaaPFKx0
import Derived.Test.YtggddmpomdpdjaaPFKx4
import Derived.Test.YtggddmpomdpdjaaPFKx5
namespace Go.Proofs.Ytggddmpomdpdjaa.PFK
open Go.RowKit Go.Proofs.YtggddmpomdpdjaaW.PrintWords Go.Proofs.YtggddmpomdpdjaaW.PrintLast Go.Proofs.YtggddmpomdpdjaaW.PrintMore
attribute [local go_sem] max2_int min2_int max_two min_two max_three min_three max_four min_four   -- for this text's walks alone
set_option linter.unusedVariables false
set_option linter.unusedSimpArgs false

/-! ### impl_doKnown: function 67 -/
mutual
def impl_doKnown.j0 : Nat → Int → Int → Bool → Int → Int → Int → Int → Option (Int × Int)
  | 0, _, _, _, _, _, _, _ => none
  | k + 1, x0, x10, x11, x182000, x182001, x183000, x183001 => if x11 = true then ((impl_bitwise.f k x0 x182000 x182001 x183000 x183001).bind fun bt184 => (some (bt184.1, bt184.2))) else (if x10 = 1 then ((impl_WordOf.f (wrap64 (x182000 + x183000))).bind fun t186 => ((impl_WordOf.f (wrap64 ((wrap64 ((wrap64 (x182000 + x182001)) + x183000)) + x183001))).bind fun t187 => ((impl_known.f t186 (Go.bits .or .i64 (Go.bits .or .i64 x182001 x183001) (Go.bits .xor .i64 t186 t187))).bind fun bt188 => (some (bt188.1, bt188.2))))) else (if x10 = 2 then ((impl_WordOf.f (wrap64 (x182000 - x183000))).bind fun t190 => ((impl_WordOf.f (wrap64 (t190 + x182001))).bind fun t191 => ((impl_WordOf.f (wrap64 (t190 - x183001))).bind fun t192 => ((impl_known.f t190 (Go.bits .or .i64 (Go.bits .or .i64 x182001 x183001) (Go.bits .xor .i64 t191 t192))).bind fun bt193 => (some (bt193.1, bt193.2)))))) else (if x10 = 9 then (impl_doKnown.j1 k x0 (x10 == 9) x182000 x182001 x183000 x183001) else (impl_doKnown.j1 k x0 (x10 == 10) x182000 x182001 x183000 x183001))))
def impl_doKnown.j1 : Nat → Int → Bool → Int → Int → Int → Int → Option (Int × Int)
  | 0, _, _, _, _, _, _ => none
  | k + 1, x0, x77, x182000, x182001, x183000, x183001 => if x77 = true then (if x183001 = 0 then ((impl_do.f x0 x182000 x183000).bind fun t195 => ((impl_do.f x0 x182001 x183000).bind fun t196 => (some (t195, t196)))) else ((impl_unknown.f).bind fun bt197 => (some (bt197.1, bt197.2)))) else (if x182001 = 0 then (impl_doKnown.j2 k x0 (x183001 == 0) x182000 x182001 x183000 x183001) else (impl_doKnown.j2 k x0 false x182000 x182001 x183000 x183001))
def impl_doKnown.j2 : Nat → Int → Bool → Int → Int → Int → Int → Option (Int × Int)
  | 0, _, _, _, _, _, _ => none
  | k + 1, x0, x104, x182000, x182001, x183000, x183001 => if x104 = true then ((impl_do.f x0 x182000 x183000).bind fun t199 => ((impl_exact.f t199).bind fun bt200 => (some (bt200.1, bt200.2)))) else ((impl_unknown.f).bind fun bt202 => (some (bt202.1, bt202.2)))
end
def impl_doKnown.f (k : Nat) (a0 : Int) (a1_0 : Int) (a1_1 : Int) (a2_0 : Int) (a2_1 : Int) : Option (Int × Int) := if a0 = 6 then (impl_doKnown.j0 k a0 a0 (a0 == 6) a1_0 a1_1 a2_0 a2_1) else (if a0 = 7 then (impl_doKnown.j0 k a0 a0 (a0 == 7) a1_0 a1_1 a2_0 a2_1) else (impl_doKnown.j0 k a0 a0 (a0 == 8) a1_0 a1_1 a2_0 a2_1))
theorem impl_doKnown.mono_l : ∀ k, (∀ y0 y1 y2 y3 y4 y5 y6, LeO (impl_doKnown.j0 k y0 y1 y2 y3 y4 y5 y6) (impl_doKnown.j0 (k + 1) y0 y1 y2 y3 y4 y5 y6)) ∧ (∀ y0 y1 y2 y3 y4 y5, LeO (impl_doKnown.j1 k y0 y1 y2 y3 y4 y5) (impl_doKnown.j1 (k + 1) y0 y1 y2 y3 y4 y5)) ∧ (∀ y0 y1 y2 y3 y4 y5, LeO (impl_doKnown.j2 k y0 y1 y2 y3 y4 y5) (impl_doKnown.j2 (k + 1) y0 y1 y2 y3 y4 y5))
  | 0 => ⟨fun _ _ _ _ _ _ _ r h => by simp [impl_doKnown.j0] at h, fun _ _ _ _ _ _ r h => by simp [impl_doKnown.j1] at h, fun _ _ _ _ _ _ r h => by simp [impl_doKnown.j2] at h⟩
  | k + 1 => by
    obtain ⟨ih0, ih1, ih2⟩ := impl_doKnown.mono_l k
    refine ⟨?_, ?_, ?_⟩
    · intro y0 y1 y2 y3 y4 y5 y6
      unfold impl_doKnown.j0
      repeat' first
      | (with_reducible exact ih0 _ _ _ _ _ _ _)
      | (with_reducible exact ih1 _ _ _ _ _ _)
      | (with_reducible exact ih2 _ _ _ _ _ _)
      | (with_reducible exact impl_bitwise.mono _ _ _ _ _ _)
      | (with_reducible exact LeO.refl _)
      | (with_reducible exact LeO.none _)
      | (with_reducible refine LeO.ite ?_ ?_)
      | (with_reducible refine LeO.bind ?_ (fun _ => ?_))
      | exact ih0 _ _ _ _ _ _ _
      | exact ih1 _ _ _ _ _ _
      | exact ih2 _ _ _ _ _ _
      | exact impl_bitwise.mono _ _ _ _ _ _
      | exact LeO.none _
      | refine LeO.ite ?_ ?_
      | refine LeO.bind ?_ (fun _ => ?_)
    · intro y0 y1 y2 y3 y4 y5
      unfold impl_doKnown.j1
      repeat' first
      | (with_reducible exact ih0 _ _ _ _ _ _ _)
      | (with_reducible exact ih1 _ _ _ _ _ _)
      | (with_reducible exact ih2 _ _ _ _ _ _)
      | (with_reducible exact impl_bitwise.mono _ _ _ _ _ _)
      | (with_reducible exact LeO.refl _)
      | (with_reducible exact LeO.none _)
      | (with_reducible refine LeO.ite ?_ ?_)
      | (with_reducible refine LeO.bind ?_ (fun _ => ?_))
      | exact ih0 _ _ _ _ _ _ _
      | exact ih1 _ _ _ _ _ _
      | exact ih2 _ _ _ _ _ _
      | exact impl_bitwise.mono _ _ _ _ _ _
      | exact LeO.none _
      | refine LeO.ite ?_ ?_
      | refine LeO.bind ?_ (fun _ => ?_)
    · intro y0 y1 y2 y3 y4 y5
      unfold impl_doKnown.j2
      repeat' first
      | (with_reducible exact ih0 _ _ _ _ _ _ _)
      | (with_reducible exact ih1 _ _ _ _ _ _)
      | (with_reducible exact ih2 _ _ _ _ _ _)
      | (with_reducible exact impl_bitwise.mono _ _ _ _ _ _)
      | (with_reducible exact LeO.refl _)
      | (with_reducible exact LeO.none _)
      | (with_reducible refine LeO.ite ?_ ?_)
      | (with_reducible refine LeO.bind ?_ (fun _ => ?_))
      | exact ih0 _ _ _ _ _ _ _
      | exact ih1 _ _ _ _ _ _
      | exact ih2 _ _ _ _ _ _
      | exact impl_bitwise.mono _ _ _ _ _ _
      | exact LeO.none _
      | refine LeO.ite ?_ ?_
      | refine LeO.bind ?_ (fun _ => ?_)
theorem impl_doKnown.mono : ∀ a0 a1 a2 a3 a4 k, LeO (impl_doKnown.f k a0 a1 a2 a3 a4) (impl_doKnown.f (k + 1) a0 a1 a2 a3 a4) := by
  intro a0 a1 a2 a3 a4 k
  obtain ⟨ih0, ih1, ih2⟩ := impl_doKnown.mono_l k
  unfold impl_doKnown.f
  repeat' first
      | (with_reducible exact ih0 _ _ _ _ _ _ _)
      | (with_reducible exact ih1 _ _ _ _ _ _)
      | (with_reducible exact ih2 _ _ _ _ _ _)
      | (with_reducible exact impl_bitwise.mono _ _ _ _ _ _)
      | (with_reducible exact LeO.refl _)
      | (with_reducible exact LeO.none _)
      | (with_reducible refine LeO.ite ?_ ?_)
      | (with_reducible refine LeO.bind ?_ (fun _ => ?_))
      | exact ih0 _ _ _ _ _ _ _
      | exact ih1 _ _ _ _ _ _
      | exact ih2 _ _ _ _ _ _
      | exact impl_bitwise.mono _ _ _ _ _ _
      | exact LeO.none _
      | refine LeO.ite ?_ ?_
      | refine LeO.bind ?_ (fun _ => ?_)
def impl_doKnown.T12 : Bool × List (List Nat × List Nat) := (true, [([], []), ([], []), ([1], [1]), ([], []), ([3], [3]), ([2, 4], [2, 4]), ([], []), ([], []), ([7], [7]), ([6, 8], [6, 8]), ([9], [9]), ([], []), ([], []), ([12], [12]), ([11, 13], [11, 13]), ([14, 10], [14]), ([10, 15], [10, 15]), ([5, 16], [5, 16]), ([0, 17, 15], [0, 17]), ([18, 18, 0, 1, 2, 3, 4, 5, 6, 7, 8, 9, 10, 11, 12, 13, 14, 15, 16, 17, 18], [18])])
def impl_doKnown.B12 : List Nat := [0, 0, 2, 0, 8, 30, 0, 0, 128, 448, 960, 0, 0, 4096, 14336, 32704, 65472, 131070, 262143, 524287]
theorem impl_doKnown.tab12 : rtab .any (opsOf Try.f67 12) = impl_doKnown.T12 := by kernel_rfl
theorem impl_doKnown.bits12 : waitsOk impl_doKnown.T12.2 impl_doKnown.B12 = true := by kernel_rfl
def impl_doKnown.T16 : Bool × List (List Nat × List Nat) := (true, [([], []), ([], []), ([1], [1]), ([], []), ([3], [3]), ([0, 2, 4], [0, 2, 4]), ([], []), ([], []), ([7], [7]), ([], []), ([9], [9]), ([6, 8, 10, 5], [6, 8, 10]), ([5, 11], [5, 11]), ([12, 11, 0, 1, 2, 3, 4, 5, 6, 7, 8, 9, 10, 11, 12], [12])])
def impl_doKnown.B16 : List Nat := [0, 0, 2, 0, 8, 31, 0, 0, 128, 0, 512, 2047, 4095, 8191]
theorem impl_doKnown.tab16 : rtab .any (opsOf Try.f67 16) = impl_doKnown.T16 := by kernel_rfl
theorem impl_doKnown.bits16 : waitsOk impl_doKnown.T16.2 impl_doKnown.B16 = true := by kernel_rfl
set_option maxHeartbeats 8000000 in
set_option maxRecDepth 100000 in
theorem impl_doKnown.calls (k : Nat) (a0 : Int) (a1_0 : Int) (a1_1 : Int) (a2_0 : Int) (a2_1 : Int) (r1 : Int) (r2 : Int) (w : World) (h : impl_doKnown.f k a0 a1_0 a1_1 a2_0 a2_1 = some (r1, r2)) :
    Calls Try.prog 67 #[.int .i64 a0, .agg #[.int .i64 a1_0, .int .i64 a1_1], .agg #[.int .i64 a2_0, .int .i64 a2_1]] w fun e w' => e = .returned (.agg #[.int .i64 r1, .int .i64 r2]) ∧ Below w.heap.size w w' := by
  have hu26 := Try.underlying26
  have HB := Aside0.mk (Below.refl w.heap.size w)
  have H : (if a0 = 6 then (impl_doKnown.j0 k a0 a0 (a0 == 6) a1_0 a1_1 a2_0 a2_1) else (if a0 = 7 then (impl_doKnown.j0 k a0 a0 (a0 == 7) a1_0 a1_1 a2_0 a2_1) else (impl_doKnown.j0 k a0 a0 (a0 == 8) a1_0 a1_1 a2_0 a2_1))) = some (r1, r2) := h
  clear h
  have HC4 := Aside0.mk H
  clear H
  go_enter Try.func67, Try.ntmps67
  go_upto_if 11 with (first | ((with_reducible refine gate_dst (N := 4) rfl ?_); refine boxq_ (N := 4) (cs := #[.int .i64 a1_0, .int .i64 a1_1]) (t := 26) ?_; intro gb181 hg w5 hbox hb; have n0_ := Aside0.mk (below_step (bq_) hb); have n1_ := Aside0.mk (hbox); have n2_ := Aside0.mk ((by rw [hg]; exact (below_size (bq_)) : w.heap.size ≤ gb181)); have n3_ := Aside0.mk ((by rw [hg]; exact (below_size (bq_)) : w.heap.size ≤ gb181)); clear HB; have HB := n0_; have BK181 := n1_; have GW181 := n2_; have GE181 := n3_; clear n0_ n1_ n2_ n3_; clear hb hbox hg) | ((with_reducible refine gate_dst (N := 5) rfl ?_); refine boxq_ (N := 5) (cs := #[.int .i64 a2_0, .int .i64 a2_1]) (t := 26) ?_; intro gb182 hg w6 hbox hb; have n0_ := Aside0.mk (blk_below (bk_ BK181.out) hb); have n1_ := Aside0.mk (below_step (bq_) hb); have n2_ := Aside0.mk (hbox); have n3_ := Aside0.mk ((by rw [hg]; exact (below_size (bq_)) : w.heap.size ≤ gb182)); have n4_ := Aside0.mk ((by rw [hg]; exact (below_size (bq_)) : w.heap.size ≤ gb182)); have n5_ := Aside0.mk ((by rw [hg]; exact Nat.ne_of_lt (blk_lt (bk_ BK181.out)) : gb181 ≠ gb182)); have n6_ := Aside0.mk ((by rw [hg]; exact Nat.ne_of_gt (blk_lt (bk_ BK181.out)) : gb182 ≠ gb181)); clear BK181; clear HB; have BK181 := n0_; have HB := n1_; have BK182 := n2_; have GW182 := n3_; have GE182 := n4_; have NB181_182 := n5_; have NB182_181 := n6_; clear n0_ n1_ n2_ n3_ n4_ n5_ n6_; clear hb hbox hg) | ((with_reducible refine gate_dst (N := 6) rfl ?_); refine boxq_ (N := 6) (cs := #[.int .i64 0, .int .i64 0]) (t := 26) ?_; intro gb183 hg w7 hbox hb; have n0_ := Aside0.mk (blk_below (bk_ BK181.out) hb); have n1_ := Aside0.mk (blk_below (bk_ BK182.out) hb); have n2_ := Aside0.mk (below_step (bq_) hb); have n3_ := Aside0.mk (hbox); have n4_ := Aside0.mk ((by rw [hg]; exact (below_size (bq_)) : w.heap.size ≤ gb183)); have n5_ := Aside0.mk ((by rw [hg]; exact (below_size (bq_)) : w.heap.size ≤ gb183)); have n6_ := Aside0.mk ((by rw [hg]; exact Nat.ne_of_lt (blk_lt (bk_ BK181.out)) : gb181 ≠ gb183)); have n7_ := Aside0.mk ((by rw [hg]; exact Nat.ne_of_gt (blk_lt (bk_ BK181.out)) : gb183 ≠ gb181)); have n8_ := Aside0.mk ((by rw [hg]; exact Nat.ne_of_lt (blk_lt (bk_ BK182.out)) : gb182 ≠ gb183)); have n9_ := Aside0.mk ((by rw [hg]; exact Nat.ne_of_gt (blk_lt (bk_ BK182.out)) : gb183 ≠ gb182)); clear BK181; clear BK182; clear HB; have BK181 := n0_; have BK182 := n1_; have HB := n2_; have BK183 := n3_; have GW183 := n4_; have GE183 := n5_; have NB181_183 := n6_; have NB183_181 := n7_; have NB182_183 := n8_; have NB183_182 := n9_; clear n0_ n1_ n2_ n3_ n4_ n5_ n6_ n7_ n8_ n9_; clear hb hbox hg))
  (try simp only [Act.put, List.setIfInBounds_toArray, List.set_cons_zero, List.set_cons_succ])
  go_cut [11] (fun v11 wc => ∃ (kq : Nat) (x11_3 : Bool), v11 = .bool x11_3 ∧ Aside0 (impl_doKnown.j0 kq a0 a0 x11_3 a1_0 a1_1 a2_0 a2_1 = some (r1, r2)) ∧ Aside0 (kq ≤ k) ∧ Aside0 (wc.heap[gb181]? = some (.cells #[.int .i64 a1_0, .int .i64 a1_1] 26 (0, 0))) ∧ Aside0 (wc.heap[gb182]? = some (.cells #[.int .i64 a2_0, .int .i64 a2_1] 26 (0, 0))) ∧ Aside0 (wc.heap[gb183]? = some (.cells #[.int .i64 0, .int .i64 0] 26 (0, 0))) ∧ Aside0 (Below w.heap.size w wc))
  case first =>
    have H := HC4.out
    clear HC4
    by_cases c8 : a0 = 6
    · rw [if_pos c8] at H
      have c8b0 : (a0 == 6) = true := beq_iff_eq.mpr c8
      have c8b1 : (a0 != 6) = false := bne_eq_false_iff_eq.mpr c8
      clear c8
      (first | rw [c8b0] | (simp only [i64_w, i32_w]; rw [c8b0]) | skip)
      have H' := Aside0.mk H
      clear H
      go_wp2
      go_meet
      case rel => exact ⟨_, ((a0 == 6)), (by first | rfl | (simp; done) | (simp [*]; done)), H', ⟨by first | omega | exact Nat.le_refl _⟩, ⟨bk_ BK181.out⟩, ⟨bk_ BK182.out⟩, ⟨bk_ BK183.out⟩, ⟨bq_⟩⟩
    · rw [if_neg c8] at H
      have c8b0 : (a0 == 6) = false := beq_eq_false_iff_ne.mpr c8
      have c8b1 : (a0 != 6) = true := bne_iff_ne.mpr c8
      (first | rw [c8b0] | (simp only [i64_w, i32_w]; rw [c8b0]) | skip)
      by_cases c9 : a0 = 7
      · rw [if_pos c9] at H
        have c9b0 : (a0 == 7) = true := beq_iff_eq.mpr c9
        have c9b1 : (a0 != 7) = false := bne_eq_false_iff_eq.mpr c9
        clear c9
        have H' := Aside0.mk H
        clear H
        go_wp2
        go_meet
        case rel => exact ⟨_, ((a0 == 7)), (by first | rfl | (simp; done) | (simp [*]; done)), H', ⟨by first | omega | exact Nat.le_refl _⟩, ⟨bk_ BK181.out⟩, ⟨bk_ BK182.out⟩, ⟨bk_ BK183.out⟩, ⟨bq_⟩⟩
      · rw [if_neg c9] at H
        have c9b0 : (a0 == 7) = false := beq_eq_false_iff_ne.mpr c9
        have c9b1 : (a0 != 7) = true := bne_iff_ne.mpr c9
        have H' := Aside0.mk H
        clear H
        go_wp2
        go_meet
        case rel => exact ⟨_, ((a0 == 8)), (by first | rfl | (simp; done) | (simp [*]; done)), H', ⟨by first | omega | exact Nat.le_refl _⟩, ⟨bk_ BK181.out⟩, ⟨bk_ BK182.out⟩, ⟨bk_ BK183.out⟩, ⟨bq_⟩⟩
  case rest =>
    clear HC4
    try clear p2
    try clear c6
    try clear c8
    try clear c8b0
    try clear c8b1
    try clear c9
    try clear c9b0
    try clear c9b1
    obtain ⟨kq, x11_3, rfl, HA, HJ3, BK181, BK182, BK183, HB⟩ := hcut
    cases kq with
    | zero => exact absurd HA.out (by simp [impl_doKnown.j0])
    | succ kj3 =>
      have H := HA.out
      clear HA
      simp only [impl_doKnown.j0] at H
      by_cases c10 : x11_3 = true
      · subst c10
        have H1 : ((impl_bitwise.f kj3 a0 a1_0 a1_1 a2_0 a2_1).bind fun bt184 => (some (bt184.1, bt184.2))) = some (r1, r2) := by rw [if_pos rfl] at H; exact H
        clear H
        have H := H1
        clear H1
        replace H := Option.bind_eq_some_iff.mp H
        obtain ⟨⟨t184, t185⟩, A110, H⟩ := H
        replace H : (some (t184, t185)) = some (r1, r2) := H
        have A11 := Aside0.mk A110
        clear A110
        simp only [Option.some.injEq, Prod.mk.injEq] at H
        obtain ⟨rfl, rfl⟩ := H
        have hnb12 := NB181_182.out
        have hnc12 := NB182_181.out
        have hnb13 := NB181_183.out
        have hnc13 := NB183_181.out
        have hcz14_0 := cq_ BK181.out 0 (.int .i64 a1_0)
        have hcz14_1 := cq_ BK181.out 1 (.int .i64 a1_1)
        have hfz14_0 := blk_frozen BK181.out 0
        have hfz14_1 := blk_frozen BK181.out 1
        have hnb15 := NB182_183.out
        have hnc15 := NB183_182.out
        have hcz16_0 := cq_ BK182.out 0 (.int .i64 a2_0)
        have hcz16_1 := cq_ BK182.out 1 (.int .i64 a2_1)
        have hfz16_0 := blk_frozen BK182.out 0
        have hfz16_1 := blk_frozen BK182.out 1
        go_wp2_with (first | ((with_reducible refine gate_callee (f := 100) rfl ?_); refine goesL_ (some 18) rfl rfl Try.func100 (by kernel_rfl) rfl #[.int .i64 a0, .agg #[.int .i64 a1_0, .int .i64 a1_1], .agg #[.int .i64 a2_0, .int .i64 a2_1]] rfl (by (try simp only [List.map_toArray, List.map_cons, List.map_nil]); first | done | rfl | (simp only [List.length_drop, List.length_take]; rfl)) ?_; (with_reducible refine (impl_bitwise.calls kj3 a0 a1_0 a1_1 a2_0 a2_1 t184 t185 _ A11.out).mono ?_); rintro e w17 ⟨rfl, hb⟩; refine ⟨_, rfl, ?_⟩; have n0_ := Aside0.mk (blk_below (bk_ BK181.out) hb); have n1_ := Aside0.mk (blk_below (bk_ BK182.out) hb); have n2_ := Aside0.mk (blk_below (bk_ BK183.out) hb); have n3_ := Aside0.mk (below_step (bq_) hb); clear BK181; clear BK182; clear BK183; clear HB; have BK181 := n0_; have BK182 := n1_; have BK183 := n2_; have HB := n3_; clear n0_ n1_ n2_ n3_; (try clear hb); (try clear hb2); (try clear hk); (try clear hi); have hcz18_0 := cq_ BK183.out 0 (.int .i64 0); have hcz18_1 := cq_ BK183.out 1 (.int .i64 0); have hfz18_0 := blk_frozen BK183.out 0; have hfz18_1 := blk_frozen BK183.out 1))
        refine bodyPost_ret (results_cell_row rfl _ _ gb183 26 #[.int .i64 t184, .int .i64 t185] (0, 0) _ rfl (by (with_reducible repeat (first | refine blk_drewN ?_ _ | refine blk_drew ?_ | refine blk_alloc ?_ _)); refine blk_put (cs := #[.int .i64 t184, .int .i64 0]) ?_ 1 _ rfl; (with_reducible repeat (first | refine blk_drewN ?_ _ | refine blk_drew ?_ | refine blk_alloc ?_ _)); refine blk_put (cs := #[.int .i64 0, .int .i64 0]) ?_ 0 _ rfl; (with_reducible repeat (first | refine blk_drewN ?_ _ | refine blk_drew ?_ | refine blk_alloc ?_ _)); exact BK183.out) Try.underlying26 rfl (by kernel_rfl)) rfl ?_
        exact ⟨by first | rfl | (simp [errW_none, errW_some] <;> rfl) | (simp [*, errW_none, errW_some] <;> rfl), bq_⟩
      · replace c10 := Bool.eq_false_iff.mpr c10
        subst c10
        have H1 : (if a0 = 1 then ((impl_WordOf.f (wrap64 (a1_0 + a2_0))).bind fun t186 => ((impl_WordOf.f (wrap64 ((wrap64 ((wrap64 (a1_0 + a1_1)) + a2_0)) + a2_1))).bind fun t187 => ((impl_known.f t186 (Go.bits .or .i64 (Go.bits .or .i64 a1_1 a2_1) (Go.bits .xor .i64 t186 t187))).bind fun bt188 => (some (bt188.1, bt188.2))))) else (if a0 = 2 then ((impl_WordOf.f (wrap64 (a1_0 - a2_0))).bind fun t190 => ((impl_WordOf.f (wrap64 (t190 + a1_1))).bind fun t191 => ((impl_WordOf.f (wrap64 (t190 - a2_1))).bind fun t192 => ((impl_known.f t190 (Go.bits .or .i64 (Go.bits .or .i64 a1_1 a2_1) (Go.bits .xor .i64 t191 t192))).bind fun bt193 => (some (bt193.1, bt193.2)))))) else (if a0 = 9 then (impl_doKnown.j1 kj3 a0 (a0 == 9) a1_0 a1_1 a2_0 a2_1) else (impl_doKnown.j1 kj3 a0 (a0 == 10) a1_0 a1_1 a2_0 a2_1)))) = some (r1, r2) := by rw [if_neg (show ¬ (false = true) by decide)] at H; exact H
        clear H
        have H := H1
        clear H1
        by_cases c19 : a0 = 1
        · rw [if_pos c19] at H
          have c19b0 : (a0 == 1) = true := beq_iff_eq.mpr c19
          have c19b1 : (a0 != 1) = false := bne_eq_false_iff_eq.mpr c19
          clear c19
          replace H := Option.bind_eq_some_iff.mp H
          obtain ⟨t186, A200, H⟩ := H
          replace H : ((impl_WordOf.f (wrap64 ((wrap64 ((wrap64 (a1_0 + a1_1)) + a2_0)) + a2_1))).bind fun t187 => ((impl_known.f t186 (Go.bits .or .i64 (Go.bits .or .i64 a1_1 a2_1) (Go.bits .xor .i64 t186 t187))).bind fun bt188 => (some (bt188.1, bt188.2)))) = some (r1, r2) := H
          have A20 := Aside0.mk A200
          clear A200
          replace H := Option.bind_eq_some_iff.mp H
          obtain ⟨t187, A210, H⟩ := H
          replace H : ((impl_known.f t186 (Go.bits .or .i64 (Go.bits .or .i64 a1_1 a2_1) (Go.bits .xor .i64 t186 t187))).bind fun bt188 => (some (bt188.1, bt188.2))) = some (r1, r2) := H
          have A21 := Aside0.mk A210
          clear A210
          replace H := Option.bind_eq_some_iff.mp H
          obtain ⟨⟨t188, t189⟩, A220, H⟩ := H
          replace H : (some (t188, t189)) = some (r1, r2) := H
          have A22 := Aside0.mk A220
          clear A220
          simp only [Option.some.injEq, Prod.mk.injEq] at H
          obtain ⟨rfl, rfl⟩ := H
          have hnb23 := NB181_182.out
          have hnc23 := NB182_181.out
          have hnb24 := NB181_183.out
          have hnc24 := NB183_181.out
          have hcz25_0 := cq_ BK181.out 0 (.int .i64 a1_0)
          have hcz25_1 := cq_ BK181.out 1 (.int .i64 a1_1)
          have hfz25_0 := blk_frozen BK181.out 0
          have hfz25_1 := blk_frozen BK181.out 1
          have hnb26 := NB182_183.out
          have hnc26 := NB183_182.out
          have hcz27_0 := cq_ BK182.out 0 (.int .i64 a2_0)
          have hcz27_1 := cq_ BK182.out 1 (.int .i64 a2_1)
          have hfz27_0 := blk_frozen BK182.out 0
          have hfz27_1 := blk_frozen BK182.out 1
          go_wp2_with (first | ((with_reducible refine gate_callee (f := 101) rfl ?_); refine goesL_ (some 26) rfl rfl Try.func101 (by kernel_rfl) rfl #[.int .i64 (wrap64 (a1_0 + a2_0))] rfl (by (try simp only [List.map_toArray, List.map_cons, List.map_nil]); first | done | rfl | (simp only [List.length_drop, List.length_take]; rfl)) ?_; (with_reducible refine (impl_WordOf.calls (wrap64 (a1_0 + a2_0)) t186 _ A20.out).mono ?_); rintro e w' ⟨rfl, ⟨nd, rfl⟩⟩; refine ⟨_, rfl, ?_⟩) | ((with_reducible refine gate_callee (f := 101) rfl ?_); refine goesL_ (some 38) rfl rfl Try.func101 (by kernel_rfl) rfl #[.int .i64 (wrap64 ((wrap64 ((wrap64 (a1_0 + a1_1)) + a2_0)) + a2_1))] rfl (by (try simp only [List.map_toArray, List.map_cons, List.map_nil]); first | done | rfl | (simp only [List.length_drop, List.length_take]; rfl)) ?_; (with_reducible refine (impl_WordOf.calls (wrap64 ((wrap64 ((wrap64 (a1_0 + a1_1)) + a2_0)) + a2_1)) t187 _ A21.out).mono ?_); rintro e w' ⟨rfl, ⟨nd, rfl⟩⟩; refine ⟨_, rfl, ?_⟩) | ((with_reducible refine gate_callee (f := 87) rfl ?_); refine goesL_ (some 49) rfl rfl Try.func87 (by kernel_rfl) rfl #[.int .i64 t186, .int .i64 (Go.bits .or .i64 (Go.bits .or .i64 a1_1 a2_1) (Go.bits .xor .i64 t186 t187))] rfl (by (try simp only [List.map_toArray, List.map_cons, List.map_nil]); first | done | rfl | (simp only [List.length_drop, List.length_take]; rfl)) ?_; (with_reducible refine (impl_known.calls t186 (Go.bits .or .i64 (Go.bits .or .i64 a1_1 a2_1) (Go.bits .xor .i64 t186 t187)) t188 t189 _ A22.out).mono ?_); rintro e w28 ⟨rfl, hb⟩; refine ⟨_, rfl, ?_⟩; have n0_ := Aside0.mk (blk_below (bk_ BK181.out) hb); have n1_ := Aside0.mk (blk_below (bk_ BK182.out) hb); have n2_ := Aside0.mk (blk_below (bk_ BK183.out) hb); have n3_ := Aside0.mk (below_step (bq_) hb); clear BK181; clear BK182; clear BK183; clear HB; have BK181 := n0_; have BK182 := n1_; have BK183 := n2_; have HB := n3_; clear n0_ n1_ n2_ n3_; (try clear hb); (try clear hb2); (try clear hk); (try clear hi); have hcz29_0 := cq_ BK183.out 0 (.int .i64 0); have hcz29_1 := cq_ BK183.out 1 (.int .i64 0); have hfz29_0 := blk_frozen BK183.out 0; have hfz29_1 := blk_frozen BK183.out 1))
          refine bodyPost_ret (results_cell_row rfl _ _ gb183 26 #[.int .i64 t188, .int .i64 t189] (0, 0) _ rfl (by (with_reducible repeat (first | refine blk_drewN ?_ _ | refine blk_drew ?_ | refine blk_alloc ?_ _)); refine blk_put (cs := #[.int .i64 t188, .int .i64 0]) ?_ 1 _ rfl; (with_reducible repeat (first | refine blk_drewN ?_ _ | refine blk_drew ?_ | refine blk_alloc ?_ _)); refine blk_put (cs := #[.int .i64 0, .int .i64 0]) ?_ 0 _ rfl; (with_reducible repeat (first | refine blk_drewN ?_ _ | refine blk_drew ?_ | refine blk_alloc ?_ _)); exact BK183.out) Try.underlying26 rfl (by kernel_rfl)) rfl ?_
          exact ⟨by first | rfl | (simp [errW_none, errW_some] <;> rfl) | (simp [*, errW_none, errW_some] <;> rfl), bq_⟩
        · rw [if_neg c19] at H
          have c19b0 : (a0 == 1) = false := beq_eq_false_iff_ne.mpr c19
          have c19b1 : (a0 != 1) = true := bne_iff_ne.mpr c19
          by_cases c30 : a0 = 2
          · rw [if_pos c30] at H
            have c30b0 : (a0 == 2) = true := beq_iff_eq.mpr c30
            have c30b1 : (a0 != 2) = false := bne_eq_false_iff_eq.mpr c30
            clear c30
            replace H := Option.bind_eq_some_iff.mp H
            obtain ⟨t190, A310, H⟩ := H
            replace H : ((impl_WordOf.f (wrap64 (t190 + a1_1))).bind fun t191 => ((impl_WordOf.f (wrap64 (t190 - a2_1))).bind fun t192 => ((impl_known.f t190 (Go.bits .or .i64 (Go.bits .or .i64 a1_1 a2_1) (Go.bits .xor .i64 t191 t192))).bind fun bt193 => (some (bt193.1, bt193.2))))) = some (r1, r2) := H
            have A31 := Aside0.mk A310
            clear A310
            replace H := Option.bind_eq_some_iff.mp H
            obtain ⟨t191, A320, H⟩ := H
            replace H : ((impl_WordOf.f (wrap64 (t190 - a2_1))).bind fun t192 => ((impl_known.f t190 (Go.bits .or .i64 (Go.bits .or .i64 a1_1 a2_1) (Go.bits .xor .i64 t191 t192))).bind fun bt193 => (some (bt193.1, bt193.2)))) = some (r1, r2) := H
            have A32 := Aside0.mk A320
            clear A320
            replace H := Option.bind_eq_some_iff.mp H
            obtain ⟨t192, A330, H⟩ := H
            replace H : ((impl_known.f t190 (Go.bits .or .i64 (Go.bits .or .i64 a1_1 a2_1) (Go.bits .xor .i64 t191 t192))).bind fun bt193 => (some (bt193.1, bt193.2))) = some (r1, r2) := H
            have A33 := Aside0.mk A330
            clear A330
            replace H := Option.bind_eq_some_iff.mp H
            obtain ⟨⟨t193, t194⟩, A340, H⟩ := H
            replace H : (some (t193, t194)) = some (r1, r2) := H
            have A34 := Aside0.mk A340
            clear A340
            simp only [Option.some.injEq, Prod.mk.injEq] at H
            obtain ⟨rfl, rfl⟩ := H
            have hnb35 := NB181_182.out
            have hnc35 := NB182_181.out
            have hnb36 := NB181_183.out
            have hnc36 := NB183_181.out
            have hcz37_0 := cq_ BK181.out 0 (.int .i64 a1_0)
            have hcz37_1 := cq_ BK181.out 1 (.int .i64 a1_1)
            have hfz37_0 := blk_frozen BK181.out 0
            have hfz37_1 := blk_frozen BK181.out 1
            have hnb38 := NB182_183.out
            have hnc38 := NB183_182.out
            have hcz39_0 := cq_ BK182.out 0 (.int .i64 a2_0)
            have hcz39_1 := cq_ BK182.out 1 (.int .i64 a2_1)
            have hfz39_0 := blk_frozen BK182.out 0
            have hfz39_1 := blk_frozen BK182.out 1
            try go_wp2_with (first | ((with_reducible refine gate_callee (f := 101) rfl ?_); refine goesL_ (some 57) rfl rfl Try.func101 (by kernel_rfl) rfl #[.int .i64 (wrap64 (a1_0 - a2_0))] rfl (by (try simp only [List.map_toArray, List.map_cons, List.map_nil]); first | done | rfl | (simp only [List.length_drop, List.length_take]; rfl)) ?_; (with_reducible refine (impl_WordOf.calls (wrap64 (a1_0 - a2_0)) t190 _ A31.out).mono ?_); rintro e w' ⟨rfl, ⟨nd, rfl⟩⟩; refine ⟨_, rfl, ?_⟩; (try (rw [drewN_self wc]; generalize hq_ : World.drewN wc _ = wc; have n0_ : Aside0 (wc.heap[gb181]? = some (.cells #[.int .i64 a1_0, .int .i64 a1_1] 26 (0, 0))) := ⟨by rw [← hq_]; exact (bk_ BK181.out)⟩; have n1_ : Aside0 (wc.heap[gb182]? = some (.cells #[.int .i64 a2_0, .int .i64 a2_1] 26 (0, 0))) := ⟨by rw [← hq_]; exact (bk_ BK182.out)⟩; have n2_ : Aside0 (wc.heap[gb183]? = some (.cells #[.int .i64 0, .int .i64 0] 26 (0, 0))) := ⟨by rw [← hq_]; exact (bk_ BK183.out)⟩; have n3_ : Aside0 (Below w.heap.size w wc) := ⟨by rw [← hq_]; exact (bq_)⟩; clear BK181 BK182 BK183 HB hq_; have BK181 := n0_; have BK182 := n1_; have BK183 := n2_; have HB := n3_; clear n0_ n1_ n2_ n3_))))
            have n0_ := Aside0.mk (blk_drew BK181.out)
            have n1_ := Aside0.mk (blk_drew BK182.out)
            have n2_ := Aside0.mk (blk_drew BK183.out)
            have n3_ := Aside0.mk (below_drew1 HB.out)
            clear BK181
            clear BK182
            clear BK183
            clear HB
            have BK181 := n0_
            have BK182 := n1_
            have BK183 := n2_
            have HB := n3_
            clear n0_ n1_ n2_ n3_
            refine start_ (n := 20) (S := fun w' => w'.cell? ⟨gb181, 0, none⟩ = some (.int .i64 a1_0) ∧ w'.cell? ⟨gb181, 1, none⟩ = some (.int .i64 a1_1) ∧ w'.cell? ⟨gb182, 0, none⟩ = some (.int .i64 a2_0) ∧ w'.cell? ⟨gb182, 1, none⟩ = some (.int .i64 a2_1)) (ds := []) #[false, false, false, false, false, false, false, false, false, false, false, false, false, false, false, false, false, false, false, false] (by kernel_rfl) rfl rfl ⟨(blk_cell BK181.out 0).trans rfl, (blk_cell BK181.out 1).trans rfl, (blk_cell BK182.out 0).trans rfl, (blk_cell BK182.out 1).trans rfl⟩ (fun hHeld => ?_); refine with_tabW impl_doKnown.tab12 impl_doKnown.bits12 (fun HT_ HW_ => ?_)
            generalize wc.drew = w40 at BK181 BK182 BK183 HB hHeld ⊢
            refine pure_ (i := 0) (N := some 58) (v := ?_) (a' := ?_) #[true, false, false, false, false, false, false, false, false, false, false, false, false, false, false, false, false, false, false, false] rfl rfl (any_of HT_.out (by kernel_rfl)) (fun _ _ _ h => h) (Or.inl ⟨by rfl, ?_⟩) ?_ ?_
            rotate_left
            · intro w'
              go_simp
              with_reducible rfl
            rotate_left
            · simp only [Act.put, List.setIfInBounds_toArray, List.set_cons_zero, List.set_cons_succ, i64_w, i32_w]
              rfl
            refine pure_ (i := 1) (N := some 59) (v := ?_) (a' := ?_) #[true, true, false, false, false, false, false, false, false, false, false, false, false, false, false, false, false, false, false, false] rfl rfl (any_of HT_.out (by kernel_rfl)) (fun _ _ _ h => h) (Or.inl ⟨by rfl, ?_⟩) ?_ ?_
            rotate_left
            · intro w'
              go_simp
              with_reducible rfl
            rotate_left
            · simp only [Act.put, List.setIfInBounds_toArray, List.set_cons_zero, List.set_cons_succ, i64_w, i32_w]
              rfl
            refine pure_ (i := 3) (N := some 61) (v := ?_) (a' := ?_) #[true, true, false, true, false, false, false, false, false, false, false, false, false, false, false, false, false, false, false, false] rfl rfl (any_of HT_.out (by kernel_rfl)) (fun _ _ _ h => h) (Or.inl ⟨by rfl, ?_⟩) ?_ ?_
            rotate_left
            · intro w'
              go_simp
              with_reducible rfl
            rotate_left
            · simp only [Act.put, List.setIfInBounds_toArray, List.set_cons_zero, List.set_cons_succ, i64_w, i32_w]
              rfl
            refine pure_ (i := 6) (N := some 64) (v := ?_) (a' := ?_) #[true, true, false, true, false, false, true, false, false, false, false, false, false, false, false, false, false, false, false, false] rfl rfl (any_of HT_.out (by kernel_rfl)) (fun _ _ _ h => h) (Or.inl ⟨by rfl, ?_⟩) ?_ ?_
            rotate_left
            · intro w'
              go_simp
              with_reducible rfl
            rotate_left
            · simp only [Act.put, List.setIfInBounds_toArray, List.set_cons_zero, List.set_cons_succ, i64_w, i32_w]
              rfl
            refine pure_ (i := 7) (N := some 65) (v := ?_) (a' := ?_) #[true, true, false, true, false, false, true, true, false, false, false, false, false, false, false, false, false, false, false, false] rfl rfl (any_of HT_.out (by kernel_rfl)) (fun _ _ _ h => h) (Or.inl ⟨by rfl, ?_⟩) ?_ ?_
            rotate_left
            · intro w'
              go_simp
              with_reducible rfl
            rotate_left
            · simp only [Act.put, List.setIfInBounds_toArray, List.set_cons_zero, List.set_cons_succ, i64_w, i32_w]
              rfl
            refine pure_ (i := 11) (N := some 69) (v := ?_) (a' := ?_) #[true, true, false, true, false, false, true, true, false, false, false, true, false, false, false, false, false, false, false, false] rfl rfl (any_of HT_.out (by kernel_rfl)) (fun _ _ _ h => h) (Or.inl ⟨by rfl, ?_⟩) ?_ ?_
            rotate_left
            · intro w'
              go_simp
              with_reducible rfl
            rotate_left
            · simp only [Act.put, List.setIfInBounds_toArray, List.set_cons_zero, List.set_cons_succ, i64_w, i32_w]
              rfl
            refine pure_ (i := 12) (N := some 70) (v := ?_) (a' := ?_) #[true, true, false, true, false, false, true, true, false, false, false, true, true, false, false, false, false, false, false, false] rfl rfl (any_of HT_.out (by kernel_rfl)) (fun _ _ _ h => h) (Or.inl ⟨by rfl, ?_⟩) ?_ ?_
            rotate_left
            · intro w'
              go_simp
              with_reducible rfl
            rotate_left
            · simp only [Act.put, List.setIfInBounds_toArray, List.set_cons_zero, List.set_cons_succ, i64_w, i32_w]
              rfl
            refine take_ (i := 2) (N := some 60) (v := ?_) (a' := ?_) #[true, true, true, true, false, false, true, true, false, false, false, true, true, false, false, false, false, false, false, false] rfl rfl (take_ofW HT_.out HW_.out (by kernel_rfl)) (fun _ _ _ h => h) (Or.inl ⟨by rfl, ?_⟩) hHeld ?_ ?_
            rotate_left
            · rintro w' ⟨s0, s1, s2, s3⟩
              go_simp
              with_reducible rfl
            rotate_left
            · simp only [Act.put, List.setIfInBounds_toArray, List.set_cons_zero, List.set_cons_succ, i64_w, i32_w]
              rfl
            refine take_ (i := 4) (N := some 62) (v := ?_) (a' := ?_) #[true, true, true, true, true, false, true, true, false, false, false, true, true, false, false, false, false, false, false, false] rfl rfl (take_ofW HT_.out HW_.out (by kernel_rfl)) (fun _ _ _ h => h) (Or.inl ⟨by rfl, ?_⟩) hHeld ?_ ?_
            rotate_left
            · rintro w' ⟨s0, s1, s2, s3⟩
              go_simp
              with_reducible rfl
            rotate_left
            · simp only [Act.put, List.setIfInBounds_toArray, List.set_cons_zero, List.set_cons_succ, i64_w, i32_w]
              rfl
            refine pure_ (i := 5) (N := some 63) (v := ?_) (a' := ?_) #[true, true, true, true, true, true, true, true, false, false, false, true, true, false, false, false, false, false, false, false] rfl rfl (any_of HT_.out (by kernel_rfl)) (fun _ _ _ h => h) (Or.inl ⟨by rfl, ?_⟩) ?_ ?_
            rotate_left
            · intro w'
              go_simp
              with_reducible rfl
            rotate_left
            · simp only [Act.put, List.setIfInBounds_toArray, List.set_cons_zero, List.set_cons_succ, i64_w, i32_w]
              rfl
            refine take_ (i := 8) (N := some 66) (v := ?_) (a' := ?_) #[true, true, true, true, true, true, true, true, true, false, false, true, true, false, false, false, false, false, false, false] rfl rfl (take_ofW HT_.out HW_.out (by kernel_rfl)) (fun _ _ _ h => h) (Or.inl ⟨by rfl, ?_⟩) hHeld ?_ ?_
            rotate_left
            · rintro w' ⟨s0, s1, s2, s3⟩
              go_simp
              with_reducible rfl
            rotate_left
            · simp only [Act.put, List.setIfInBounds_toArray, List.set_cons_zero, List.set_cons_succ, i64_w, i32_w]
              rfl
            refine pure_ (i := 9) (N := some 67) (v := ?_) (a' := ?_) #[true, true, true, true, true, true, true, true, true, true, false, true, true, false, false, false, false, false, false, false] rfl rfl (any_of HT_.out (by kernel_rfl)) (fun _ _ _ h => h) (Or.inl ⟨by rfl, ?_⟩) ?_ ?_
            rotate_left
            · intro w'
              go_simp
              with_reducible rfl
            rotate_left
            · simp only [Act.put, List.setIfInBounds_toArray, List.set_cons_zero, List.set_cons_succ, i64_w, i32_w]
              rfl
            refine take_ (i := 13) (N := some 71) (v := ?_) (a' := ?_) #[true, true, true, true, true, true, true, true, true, true, false, true, true, true, false, false, false, false, false, false] rfl rfl (take_ofW HT_.out HW_.out (by kernel_rfl)) (fun _ _ _ h => h) (Or.inl ⟨by rfl, ?_⟩) hHeld ?_ ?_
            rotate_left
            · rintro w' ⟨s0, s1, s2, s3⟩
              go_simp
              with_reducible rfl
            rotate_left
            · simp only [Act.put, List.setIfInBounds_toArray, List.set_cons_zero, List.set_cons_succ, i64_w, i32_w]
              rfl
            refine pure_ (i := 14) (N := some 72) (v := ?_) (a' := ?_) #[true, true, true, true, true, true, true, true, true, true, false, true, true, true, true, false, false, false, false, false] rfl rfl (any_of HT_.out (by kernel_rfl)) (fun _ _ _ h => h) (Or.inl ⟨by rfl, ?_⟩) ?_ ?_
            rotate_left
            · intro w'
              go_simp
              with_reducible rfl
            rotate_left
            · simp only [Act.put, List.setIfInBounds_toArray, List.set_cons_zero, List.set_cons_succ, i64_w, i32_w]
              rfl
            refine one_ (i := 10) (N := some 68) #[true, true, true, true, true, true, true, true, true, true, true, true, true, true, true, false, false, false, false, false] rfl rfl (one_of HT_.out (by kernel_rfl)) (by decide) (fun K hK => ?_)
            refine goes_ Try.func101 (by kernel_rfl) rfl #[.int .i64 (wrap64 (t190 + a1_1))] (by rfl) rfl rfl (by (try simp only [List.map_toArray, List.map_cons, List.map_nil]); first | done | rfl | (simp only [List.length_drop, List.length_take]; rfl)) ?_
            with_reducible refine (impl_WordOf.calls (wrap64 (t190 + a1_1)) t191 _ A32.out).mono ?_
            rintro e w' ⟨rfl, ⟨nd, rfl⟩⟩
            refine ⟨_, rfl, ?_⟩
            refine hK.out _ _ ⟨(blk_cell BK181.out 0).trans rfl, (blk_cell BK181.out 1).trans rfl, (blk_cell BK182.out 0).trans rfl, (blk_cell BK182.out 1).trans rfl⟩ (fun hHeld => ?_)
            clear hK K
            refine norm_ (a' := ?_) ?_ ?_
            rotate_left
            · show Act.put _ (some 68) _ = _
              simp only [Act.put, List.setIfInBounds_toArray, List.set_cons_zero, List.set_cons_succ, i64_w, i32_w]
              rfl
            refine one_ (i := 15) (N := some 73) #[true, true, true, true, true, true, true, true, true, true, true, true, true, true, true, true, false, false, false, false] rfl rfl (one_of HT_.out (by kernel_rfl)) (by decide) (fun K hK => ?_)
            refine goes_ Try.func101 (by kernel_rfl) rfl #[.int .i64 (wrap64 (t190 - a2_1))] (by rfl) rfl rfl (by (try simp only [List.map_toArray, List.map_cons, List.map_nil]); first | done | rfl | (simp only [List.length_drop, List.length_take]; rfl)) ?_
            with_reducible refine (impl_WordOf.calls (wrap64 (t190 - a2_1)) t192 _ A33.out).mono ?_
            rintro e w' ⟨rfl, ⟨nd, rfl⟩⟩
            refine ⟨_, rfl, ?_⟩
            refine hK.out _ _ ⟨(blk_cell BK181.out 0).trans rfl, (blk_cell BK181.out 1).trans rfl, (blk_cell BK182.out 0).trans rfl, (blk_cell BK182.out 1).trans rfl⟩ (fun hHeld => ?_)
            clear hK K
            refine norm_ (a' := ?_) ?_ ?_
            rotate_left
            · show Act.put _ (some 73) _ = _
              simp only [Act.put, List.setIfInBounds_toArray, List.set_cons_zero, List.set_cons_succ, i64_w, i32_w]
              rfl
            refine pure_ (i := 16) (N := some 74) (v := ?_) (a' := ?_) #[true, true, true, true, true, true, true, true, true, true, true, true, true, true, true, true, true, false, false, false] rfl rfl (any_of HT_.out (by kernel_rfl)) (fun _ _ _ h => h) (Or.inl ⟨by rfl, ?_⟩) ?_ ?_
            rotate_left
            · intro w'
              go_simp
              with_reducible rfl
            rotate_left
            · simp only [Act.put, List.setIfInBounds_toArray, List.set_cons_zero, List.set_cons_succ, i64_w, i32_w]
              rfl
            refine pure_ (i := 17) (N := some 75) (v := ?_) (a' := ?_) #[true, true, true, true, true, true, true, true, true, true, true, true, true, true, true, true, true, true, false, false] rfl rfl (any_of HT_.out (by kernel_rfl)) (fun _ _ _ h => h) (Or.inl ⟨by rfl, ?_⟩) ?_ ?_
            rotate_left
            · intro w'
              go_simp
              with_reducible rfl
            rotate_left
            · simp only [Act.put, List.setIfInBounds_toArray, List.set_cons_zero, List.set_cons_succ, i64_w, i32_w]
              rfl
            refine one_ (i := 18) (N := some 76) #[true, true, true, true, true, true, true, true, true, true, true, true, true, true, true, true, true, true, true, false] rfl rfl (one_of HT_.out (by kernel_rfl)) (by decide) (fun K hK => ?_)
            refine goes_ Try.func87 (by kernel_rfl) rfl #[.int .i64 t190, .int .i64 (Go.bits .or .i64 (Go.bits .or .i64 a1_1 a2_1) (Go.bits .xor .i64 t191 t192))] (by rfl) rfl rfl (by (try simp only [List.map_toArray, List.map_cons, List.map_nil]); first | done | rfl | (simp only [List.length_drop, List.length_take]; rfl)) ?_
            with_reducible refine (impl_known.calls t190 (Go.bits .or .i64 (Go.bits .or .i64 a1_1 a2_1) (Go.bits .xor .i64 t191 t192)) t193 t194 _ A34.out).mono ?_
            rintro e w41 ⟨rfl, hb⟩
            refine ⟨_, rfl, ?_⟩
            have n0_ := Aside0.mk (blk_below (bk_ BK181.out) hb)
            have n1_ := Aside0.mk (blk_below (bk_ BK182.out) hb)
            have n2_ := Aside0.mk (blk_below (bk_ BK183.out) hb)
            have n3_ := Aside0.mk (below_step (bq_) hb)
            clear BK181
            clear BK182
            clear BK183
            clear HB
            have BK181 := n0_
            have BK182 := n1_
            have BK183 := n2_
            have HB := n3_
            clear n0_ n1_ n2_ n3_
            (try clear hb)
            (try clear hb2)
            (try clear hk)
            (try clear hi)
            refine hK.out _ _ ⟨(blk_cell BK181.out 0).trans rfl, (blk_cell BK181.out 1).trans rfl, (blk_cell BK182.out 0).trans rfl, (blk_cell BK182.out 1).trans rfl⟩ (fun hHeld => ?_)
            clear hK K
            refine norm_ (a' := ?_) ?_ ?_
            rotate_left
            · show Act.put _ (some 76) _ = _
              simp only [Act.put, List.setIfInBounds_toArray, List.set_cons_zero, List.set_cons_succ, i64_w, i32_w]
              rfl
            refine one_ (i := 19) (N := none) #[true, true, true, true, true, true, true, true, true, true, true, true, true, true, true, true, true, true, true, true] rfl rfl (one_of HT_.out (by kernel_rfl)) (by decide) (fun K hK => ?_)
            have hs42 : w41.cell? ⟨gb183, 0, none⟩ = some (.int .i64 0) := (blk_cell BK183.out 0).trans rfl
            have hfs42 := blk_frozen BK183.out 0
            have hns42_0 := NB181_183.out
            have hns42_1 := NB182_183.out
            have hms42_0 := NB183_181.out
            have hms42_1 := NB183_182.out
            have hs43 : w41.cell? ⟨gb183, 1, none⟩ = some (.int .i64 0) := (blk_cell BK183.out 1).trans rfl
            have hfs43 := blk_frozen BK183.out 1
            have hns43_0 := NB181_183.out
            have hns43_1 := NB182_183.out
            have hms43_0 := NB183_181.out
            have hms43_1 := NB183_182.out
            refine skip_ (w1 := ?_) (by rfl) rfl ?_ ?_
            rotate_left
            · go_simp
              rfl
            refine hK.out _ _ ⟨((cell_far (p := ⟨gb183, _, none⟩) NB181_183.out _).trans (((cell_far (p := ⟨gb183, _, none⟩) NB181_183.out _).trans (hHeld.1)))), ((cell_far (p := ⟨gb183, _, none⟩) NB181_183.out _).trans (((cell_far (p := ⟨gb183, _, none⟩) NB181_183.out _).trans (hHeld.2.1)))), ((cell_far (p := ⟨gb183, _, none⟩) NB182_183.out _).trans (((cell_far (p := ⟨gb183, _, none⟩) NB182_183.out _).trans (hHeld.2.2.1)))), ((cell_far (p := ⟨gb183, _, none⟩) NB182_183.out _).trans (((cell_far (p := ⟨gb183, _, none⟩) NB182_183.out _).trans (hHeld.2.2.2))))⟩ (fun hHeld => ?_)
            clear hK K
            refine done_ (done_of HT_.out (by kernel_rfl)) ?_
            try go_wp2
            refine bodyPost_ret (results_cell_row rfl _ _ gb183 26 #[.int .i64 t193, .int .i64 t194] (0, 0) _ rfl (by (with_reducible repeat (first | refine blk_drewN ?_ _ | refine blk_drew ?_ | refine blk_alloc ?_ _)); refine blk_put (cs := #[.int .i64 t193, .int .i64 0]) ?_ 1 _ rfl; (with_reducible repeat (first | refine blk_drewN ?_ _ | refine blk_drew ?_ | refine blk_alloc ?_ _)); refine blk_put (cs := #[.int .i64 0, .int .i64 0]) ?_ 0 _ rfl; (with_reducible repeat (first | refine blk_drewN ?_ _ | refine blk_drew ?_ | refine blk_alloc ?_ _)); exact BK183.out) Try.underlying26 rfl (by kernel_rfl)) rfl ?_
            exact ⟨by first | rfl | (simp [errW_none, errW_some] <;> rfl) | (simp [*, errW_none, errW_some] <;> rfl), bq_⟩
          · rw [if_neg c30] at H
            have c30b0 : (a0 == 2) = false := beq_eq_false_iff_ne.mpr c30
            have c30b1 : (a0 != 2) = true := bne_iff_ne.mpr c30
            have HC44 := Aside0.mk H
            clear H
            go_upto_if 77 with (fail)
            go_cut [77] (fun v77 wc => ∃ (kq : Nat) (x77_43 : Bool), v77 = .bool x77_43 ∧ Aside0 (impl_doKnown.j1 kq a0 x77_43 a1_0 a1_1 a2_0 a2_1 = some (r1, r2)) ∧ Aside0 (kq ≤ kj3) ∧ Aside0 (wc.heap[gb181]? = some (.cells #[.int .i64 a1_0, .int .i64 a1_1] 26 (0, 0))) ∧ Aside0 (wc.heap[gb182]? = some (.cells #[.int .i64 a2_0, .int .i64 a2_1] 26 (0, 0))) ∧ Aside0 (wc.heap[gb183]? = some (.cells #[.int .i64 0, .int .i64 0] 26 (0, 0))) ∧ Aside0 (Below w.heap.size w wc))
            case first =>
              have H := HC44.out
              clear HC44
              by_cases c45 : a0 = 9
              · rw [if_pos c45] at H
                have c45b0 : (a0 == 9) = true := beq_iff_eq.mpr c45
                have c45b1 : (a0 != 9) = false := bne_eq_false_iff_eq.mpr c45
                clear c45
                (first | rw [c45b0] | (simp only [i64_w, i32_w]; rw [c45b0]) | skip)
                have H' := Aside0.mk H
                clear H
                go_wp2
                go_meet
                case rel => exact ⟨_, ((a0 == 9)), (by first | rfl | (simp; done) | (simp [*]; done)), H', ⟨by have := HJ3.out; first | omega | exact Nat.le_refl _⟩, ⟨bk_ BK181.out⟩, ⟨bk_ BK182.out⟩, ⟨bk_ BK183.out⟩, ⟨bq_⟩⟩
              · rw [if_neg c45] at H
                have c45b0 : (a0 == 9) = false := beq_eq_false_iff_ne.mpr c45
                have c45b1 : (a0 != 9) = true := bne_iff_ne.mpr c45
                (first | rw [c45b0] | (simp only [i64_w, i32_w]; rw [c45b0]) | skip)
                have H' := Aside0.mk H
                clear H
                go_wp2
                go_meet
                case rel => exact ⟨_, ((a0 == 10)), (by first | rfl | (simp; done) | (simp [*]; done)), H', ⟨by have := HJ3.out; first | omega | exact Nat.le_refl _⟩, ⟨bk_ BK181.out⟩, ⟨bk_ BK182.out⟩, ⟨bk_ BK183.out⟩, ⟨bq_⟩⟩
            case rest =>
              clear HC44
              try clear c1
              try clear c2
              try clear p2
              try clear c3
              try clear c4
              try clear c6
              try clear p6
              try clear c8
              try clear c8b0
              try clear c8b1
              try clear c9
              try clear c9b0
              try clear c9b1
              try clear c10
              try clear c12
              try clear c13
              try clear c15
              try clear c19
              try clear c19b0
              try clear c19b1
              try clear c23
              try clear c24
              try clear c26
              try clear c30
              try clear c30b0
              try clear c30b1
              try clear c35
              try clear c36
              try clear c38
              try clear c45
              try clear c45b0
              try clear c45b1
              try clear hcz14_0
              try clear hcz14_1
              try clear hcz16_0
              try clear hcz16_1
              try clear hcz18_0
              try clear hcz18_1
              try clear hcz25_0
              try clear hcz25_1
              try clear hcz27_0
              try clear hcz27_1
              try clear hcz29_0
              try clear hcz29_1
              try clear hcz37_0
              try clear hcz37_1
              try clear hcz39_0
              try clear hcz39_1
              try clear hfz14_0
              try clear hfz14_1
              try clear hfz16_0
              try clear hfz16_1
              try clear hfz18_0
              try clear hfz18_1
              try clear hfz25_0
              try clear hfz25_1
              try clear hfz27_0
              try clear hfz27_1
              try clear hfz29_0
              try clear hfz29_1
              try clear hfz37_0
              try clear hfz37_1
              try clear hfz39_0
              try clear hfz39_1
              try clear p2
              obtain ⟨kq, x77_43, rfl, HA, HJ43, BK181, BK182, BK183, HB⟩ := hcut
              cases kq with
              | zero => exact absurd HA.out (by simp [impl_doKnown.j1])
              | succ kj43 =>
                have H := HA.out
                clear HA
                simp only [impl_doKnown.j1] at H
                by_cases c46 : x77_43 = true
                · subst c46
                  have H1 : (if a2_1 = 0 then ((impl_do.f a0 a1_0 a2_0).bind fun t195 => ((impl_do.f a0 a1_1 a2_0).bind fun t196 => (some (t195, t196)))) else ((impl_unknown.f).bind fun bt197 => (some (bt197.1, bt197.2)))) = some (r1, r2) := by rw [if_pos rfl] at H; exact H
                  clear H
                  have H := H1
                  clear H1
                  by_cases c47 : a2_1 = 0
                  · rw [if_pos c47] at H
                    have c47b0 : (a2_1 == 0) = true := beq_iff_eq.mpr c47
                    have c47b1 : (a2_1 != 0) = false := bne_eq_false_iff_eq.mpr c47
                    clear c47
                    replace H := Option.bind_eq_some_iff.mp H
                    obtain ⟨t195, A480, H⟩ := H
                    replace H : ((impl_do.f a0 a1_1 a2_0).bind fun t196 => (some (t195, t196))) = some (r1, r2) := H
                    have A48 := Aside0.mk A480
                    clear A480
                    replace H := Option.bind_eq_some_iff.mp H
                    obtain ⟨t196, A490, H⟩ := H
                    replace H : (some (t195, t196)) = some (r1, r2) := H
                    have A49 := Aside0.mk A490
                    clear A490
                    simp only [Option.some.injEq, Prod.mk.injEq] at H
                    obtain ⟨rfl, rfl⟩ := H
                    have hnb50 := NB182_181.out
                    have hnc50 := NB181_182.out
                    have hnb51 := NB182_183.out
                    have hnc51 := NB183_182.out
                    have hcz52_0 := cq_ BK182.out 0 (.int .i64 a2_0)
                    have hcz52_1 := cq_ BK182.out 1 (.int .i64 a2_1)
                    have hfz52_0 := blk_frozen BK182.out 0
                    have hfz52_1 := blk_frozen BK182.out 1
                    try go_wp2
                    have n0_ := Aside0.mk (blk_drew BK181.out)
                    have n1_ := Aside0.mk (blk_drew BK182.out)
                    have n2_ := Aside0.mk (blk_drew BK183.out)
                    have n3_ := Aside0.mk (below_drew1 HB.out)
                    clear BK181
                    clear BK182
                    clear BK183
                    clear HB
                    have BK181 := n0_
                    have BK182 := n1_
                    have BK183 := n2_
                    have HB := n3_
                    clear n0_ n1_ n2_ n3_
                    refine start_ (n := 14) (S := fun w' => w'.cell? ⟨gb181, 0, none⟩ = some (.int .i64 a1_0) ∧ w'.cell? ⟨gb181, 1, none⟩ = some (.int .i64 a1_1) ∧ w'.cell? ⟨gb182, 0, none⟩ = some (.int .i64 a2_0) ∧ w'.cell? ⟨gb182, 1, none⟩ = some (.int .i64 a2_1)) (ds := []) #[false, false, false, false, false, false, false, false, false, false, false, false, false, false] (by kernel_rfl) rfl rfl ⟨(blk_cell BK181.out 0).trans rfl, (blk_cell BK181.out 1).trans rfl, (blk_cell BK182.out 0).trans rfl, (blk_cell BK182.out 1).trans rfl⟩ (fun hHeld => ?_); refine with_tabW impl_doKnown.tab16 impl_doKnown.bits16 (fun HT_ HW_ => ?_)
                    generalize wc.drew = w53 at BK181 BK182 BK183 HB hHeld ⊢
                    refine pure_ (i := 0) (N := some 83) (v := ?_) (a' := ?_) #[true, false, false, false, false, false, false, false, false, false, false, false, false, false] rfl rfl (any_of HT_.out (by kernel_rfl)) (fun _ _ _ h => h) (Or.inl ⟨by rfl, ?_⟩) ?_ ?_
                    rotate_left
                    · intro w'
                      go_simp
                      with_reducible rfl
                    rotate_left
                    · simp only [Act.put, List.setIfInBounds_toArray, List.set_cons_zero, List.set_cons_succ, i64_w, i32_w]
                      rfl
                    refine pure_ (i := 1) (N := some 84) (v := ?_) (a' := ?_) #[true, true, false, false, false, false, false, false, false, false, false, false, false, false] rfl rfl (any_of HT_.out (by kernel_rfl)) (fun _ _ _ h => h) (Or.inl ⟨by rfl, ?_⟩) ?_ ?_
                    rotate_left
                    · intro w'
                      go_simp
                      with_reducible rfl
                    rotate_left
                    · simp only [Act.put, List.setIfInBounds_toArray, List.set_cons_zero, List.set_cons_succ, i64_w, i32_w]
                      rfl
                    refine pure_ (i := 3) (N := some 86) (v := ?_) (a' := ?_) #[true, true, false, true, false, false, false, false, false, false, false, false, false, false] rfl rfl (any_of HT_.out (by kernel_rfl)) (fun _ _ _ h => h) (Or.inl ⟨by rfl, ?_⟩) ?_ ?_
                    rotate_left
                    · intro w'
                      go_simp
                      with_reducible rfl
                    rotate_left
                    · simp only [Act.put, List.setIfInBounds_toArray, List.set_cons_zero, List.set_cons_succ, i64_w, i32_w]
                      rfl
                    refine pure_ (i := 6) (N := some 89) (v := ?_) (a' := ?_) #[true, true, false, true, false, false, true, false, false, false, false, false, false, false] rfl rfl (any_of HT_.out (by kernel_rfl)) (fun _ _ _ h => h) (Or.inl ⟨by rfl, ?_⟩) ?_ ?_
                    rotate_left
                    · intro w'
                      go_simp
                      with_reducible rfl
                    rotate_left
                    · simp only [Act.put, List.setIfInBounds_toArray, List.set_cons_zero, List.set_cons_succ, i64_w, i32_w]
                      rfl
                    refine pure_ (i := 7) (N := some 90) (v := ?_) (a' := ?_) #[true, true, false, true, false, false, true, true, false, false, false, false, false, false] rfl rfl (any_of HT_.out (by kernel_rfl)) (fun _ _ _ h => h) (Or.inl ⟨by rfl, ?_⟩) ?_ ?_
                    rotate_left
                    · intro w'
                      go_simp
                      with_reducible rfl
                    rotate_left
                    · simp only [Act.put, List.setIfInBounds_toArray, List.set_cons_zero, List.set_cons_succ, i64_w, i32_w]
                      rfl
                    refine pure_ (i := 9) (N := some 92) (v := ?_) (a' := ?_) #[true, true, false, true, false, false, true, true, false, true, false, false, false, false] rfl rfl (any_of HT_.out (by kernel_rfl)) (fun _ _ _ h => h) (Or.inl ⟨by rfl, ?_⟩) ?_ ?_
                    rotate_left
                    · intro w'
                      go_simp
                      with_reducible rfl
                    rotate_left
                    · simp only [Act.put, List.setIfInBounds_toArray, List.set_cons_zero, List.set_cons_succ, i64_w, i32_w]
                      rfl
                    refine take_ (i := 2) (N := some 85) (v := ?_) (a' := ?_) #[true, true, true, true, false, false, true, true, false, true, false, false, false, false] rfl rfl (take_ofW HT_.out HW_.out (by kernel_rfl)) (fun _ _ _ h => h) (Or.inl ⟨by rfl, ?_⟩) hHeld ?_ ?_
                    rotate_left
                    · rintro w' ⟨s0, s1, s2, s3⟩
                      go_simp
                      with_reducible rfl
                    rotate_left
                    · simp only [Act.put, List.setIfInBounds_toArray, List.set_cons_zero, List.set_cons_succ, i64_w, i32_w]
                      rfl
                    refine take_ (i := 4) (N := some 87) (v := ?_) (a' := ?_) #[true, true, true, true, true, false, true, true, false, true, false, false, false, false] rfl rfl (take_ofW HT_.out HW_.out (by kernel_rfl)) (fun _ _ _ h => h) (Or.inl ⟨by rfl, ?_⟩) hHeld ?_ ?_
                    rotate_left
                    · rintro w' ⟨s0, s1, s2, s3⟩
                      go_simp
                      with_reducible rfl
                    rotate_left
                    · simp only [Act.put, List.setIfInBounds_toArray, List.set_cons_zero, List.set_cons_succ, i64_w, i32_w]
                      rfl
                    refine take_ (i := 8) (N := some 91) (v := ?_) (a' := ?_) #[true, true, true, true, true, false, true, true, true, true, false, false, false, false] rfl rfl (take_ofW HT_.out HW_.out (by kernel_rfl)) (fun _ _ _ h => h) (Or.inl ⟨by rfl, ?_⟩) hHeld ?_ ?_
                    rotate_left
                    · rintro w' ⟨s0, s1, s2, s3⟩
                      go_simp
                      with_reducible rfl
                    rotate_left
                    · simp only [Act.put, List.setIfInBounds_toArray, List.set_cons_zero, List.set_cons_succ, i64_w, i32_w]
                      rfl
                    refine take_ (i := 10) (N := some 93) (v := ?_) (a' := ?_) #[true, true, true, true, true, false, true, true, true, true, true, false, false, false] rfl rfl (take_ofW HT_.out HW_.out (by kernel_rfl)) (fun _ _ _ h => h) (Or.inl ⟨by rfl, ?_⟩) hHeld ?_ ?_
                    rotate_left
                    · rintro w' ⟨s0, s1, s2, s3⟩
                      go_simp
                      with_reducible rfl
                    rotate_left
                    · simp only [Act.put, List.setIfInBounds_toArray, List.set_cons_zero, List.set_cons_succ, i64_w, i32_w]
                      rfl
                    refine one_ (i := 5) (N := some 88) #[true, true, true, true, true, true, true, true, true, true, true, false, false, false] rfl rfl (one_of HT_.out (by kernel_rfl)) (by decide) (fun K hK => ?_)
                    refine goes_ Try.func80 (by kernel_rfl) rfl #[.int .i64 a0, .int .i64 a1_0, .int .i64 a2_0] (by rfl) rfl rfl (by (try simp only [List.map_toArray, List.map_cons, List.map_nil]); first | done | rfl | (simp only [List.length_drop, List.length_take]; rfl)) ?_
                    with_reducible refine (impl_do.calls a0 a1_0 a2_0 t195 _ A48.out).mono ?_
                    rintro e w' ⟨rfl, ⟨nd, rfl⟩⟩
                    refine ⟨_, rfl, ?_⟩
                    refine hK.out _ _ ⟨(blk_cell BK181.out 0).trans rfl, (blk_cell BK181.out 1).trans rfl, (blk_cell BK182.out 0).trans rfl, (blk_cell BK182.out 1).trans rfl⟩ (fun hHeld => ?_)
                    clear hK K
                    refine norm_ (a' := ?_) ?_ ?_
                    rotate_left
                    · show Act.put _ (some 88) _ = _
                      simp only [Act.put, List.setIfInBounds_toArray, List.set_cons_zero, List.set_cons_succ, i64_w, i32_w]
                      rfl
                    refine one_ (i := 11) (N := some 94) #[true, true, true, true, true, true, true, true, true, true, true, true, false, false] rfl rfl (one_of HT_.out (by kernel_rfl)) (by decide) (fun K hK => ?_)
                    refine goes_ Try.func80 (by kernel_rfl) rfl #[.int .i64 a0, .int .i64 a1_1, .int .i64 a2_0] (by rfl) rfl rfl (by (try simp only [List.map_toArray, List.map_cons, List.map_nil]); first | done | rfl | (simp only [List.length_drop, List.length_take]; rfl)) ?_
                    with_reducible refine (impl_do.calls a0 a1_1 a2_0 t196 _ A49.out).mono ?_
                    rintro e w' ⟨rfl, ⟨nd, rfl⟩⟩
                    refine ⟨_, rfl, ?_⟩
                    refine hK.out _ _ ⟨(blk_cell BK181.out 0).trans rfl, (blk_cell BK181.out 1).trans rfl, (blk_cell BK182.out 0).trans rfl, (blk_cell BK182.out 1).trans rfl⟩ (fun hHeld => ?_)
                    clear hK K
                    refine norm_ (a' := ?_) ?_ ?_
                    rotate_left
                    · show Act.put _ (some 94) _ = _
                      simp only [Act.put, List.setIfInBounds_toArray, List.set_cons_zero, List.set_cons_succ, i64_w, i32_w]
                      rfl
                    refine pure_ (i := 12) (N := some 95) (v := ?_) (a' := ?_) #[true, true, true, true, true, true, true, true, true, true, true, true, true, false] rfl rfl (any_of HT_.out (by kernel_rfl)) (fun _ _ _ h => h) (Or.inl ⟨by rfl, ?_⟩) ?_ ?_
                    rotate_left
                    · intro w'
                      go_simp
                      with_reducible rfl
                    rotate_left
                    · simp only [Act.put, List.setIfInBounds_toArray, List.set_cons_zero, List.set_cons_succ, i64_w, i32_w]
                      rfl
                    refine one_ (i := 13) (N := none) #[true, true, true, true, true, true, true, true, true, true, true, true, true, true] rfl rfl (one_of HT_.out (by kernel_rfl)) (by decide) (fun K hK => ?_)
                    have hs54 : w53.cell? ⟨gb183, 0, none⟩ = some (.int .i64 0) := (blk_cell BK183.out 0).trans rfl
                    have hfs54 := blk_frozen BK183.out 0
                    have hns54_0 := NB181_183.out
                    have hns54_1 := NB182_183.out
                    have hms54_0 := NB183_181.out
                    have hms54_1 := NB183_182.out
                    have hs55 : w53.cell? ⟨gb183, 1, none⟩ = some (.int .i64 0) := (blk_cell BK183.out 1).trans rfl
                    have hfs55 := blk_frozen BK183.out 1
                    have hns55_0 := NB181_183.out
                    have hns55_1 := NB182_183.out
                    have hms55_0 := NB183_181.out
                    have hms55_1 := NB183_182.out
                    refine skip_ (w1 := ?_) (by rfl) rfl ?_ ?_
                    rotate_left
                    · go_simp
                      rfl
                    refine hK.out _ _ ⟨((cell_far (p := ⟨gb183, _, none⟩) NB181_183.out _).trans (((cell_far (p := ⟨gb183, _, none⟩) NB181_183.out _).trans (hHeld.1)))), ((cell_far (p := ⟨gb183, _, none⟩) NB181_183.out _).trans (((cell_far (p := ⟨gb183, _, none⟩) NB181_183.out _).trans (hHeld.2.1)))), ((cell_far (p := ⟨gb183, _, none⟩) NB182_183.out _).trans (((cell_far (p := ⟨gb183, _, none⟩) NB182_183.out _).trans (hHeld.2.2.1)))), ((cell_far (p := ⟨gb183, _, none⟩) NB182_183.out _).trans (((cell_far (p := ⟨gb183, _, none⟩) NB182_183.out _).trans (hHeld.2.2.2))))⟩ (fun hHeld => ?_)
                    clear hK K
                    refine done_ (done_of HT_.out (by kernel_rfl)) ?_
                    try go_wp2
                    refine bodyPost_ret (results_cell_row rfl _ _ gb183 26 #[.int .i64 t195, .int .i64 t196] (0, 0) _ rfl (by (with_reducible repeat (first | refine blk_drewN ?_ _ | refine blk_drew ?_ | refine blk_alloc ?_ _)); refine blk_put (cs := #[.int .i64 t195, .int .i64 0]) ?_ 1 _ rfl; (with_reducible repeat (first | refine blk_drewN ?_ _ | refine blk_drew ?_ | refine blk_alloc ?_ _)); refine blk_put (cs := #[.int .i64 0, .int .i64 0]) ?_ 0 _ rfl; (with_reducible repeat (first | refine blk_drewN ?_ _ | refine blk_drew ?_ | refine blk_alloc ?_ _)); exact BK183.out) Try.underlying26 rfl (by kernel_rfl)) rfl ?_
                    exact ⟨by first | rfl | (simp [errW_none, errW_some] <;> rfl) | (simp [*, errW_none, errW_some] <;> rfl), bq_⟩
                  · rw [if_neg c47] at H
                    have c47b0 : (a2_1 == 0) = false := beq_eq_false_iff_ne.mpr c47
                    have c47b1 : (a2_1 != 0) = true := bne_iff_ne.mpr c47
                    replace H := Option.bind_eq_some_iff.mp H
                    obtain ⟨⟨t197, t198⟩, A560, H⟩ := H
                    replace H : (some (t197, t198)) = some (r1, r2) := H
                    have A56 := Aside0.mk A560
                    clear A560
                    simp only [Option.some.injEq, Prod.mk.injEq] at H
                    obtain ⟨rfl, rfl⟩ := H
                    have hnb57 := NB182_181.out
                    have hnc57 := NB181_182.out
                    have hnb58 := NB182_183.out
                    have hnc58 := NB183_182.out
                    have hcz59_0 := cq_ BK182.out 0 (.int .i64 a2_0)
                    have hcz59_1 := cq_ BK182.out 1 (.int .i64 a2_1)
                    have hfz59_0 := blk_frozen BK182.out 0
                    have hfz59_1 := blk_frozen BK182.out 1
                    go_wp2_with (first | ((with_reducible refine gate_callee (f := 102) rfl ?_); refine goesL_ (some 96) rfl rfl Try.func102 (by kernel_rfl) rfl #[] rfl (by (try simp only [List.map_toArray, List.map_cons, List.map_nil]); first | done | rfl | (simp only [List.length_drop, List.length_take]; rfl)) ?_; (with_reducible refine (impl_unknown.calls  t197 t198 _ A56.out).mono ?_); rintro e w60 ⟨rfl, hb⟩; refine ⟨_, rfl, ?_⟩; have n0_ := Aside0.mk (blk_below (bk_ BK181.out) hb); have n1_ := Aside0.mk (blk_below (bk_ BK182.out) hb); have n2_ := Aside0.mk (blk_below (bk_ BK183.out) hb); have n3_ := Aside0.mk (below_step (bq_) hb); clear BK181; clear BK182; clear BK183; clear HB; have BK181 := n0_; have BK182 := n1_; have BK183 := n2_; have HB := n3_; clear n0_ n1_ n2_ n3_; (try clear hb); (try clear hb2); (try clear hk); (try clear hi); have hnb61 := NB183_181.out; have hnc61 := NB181_183.out; have hcz62_0 := cq_ BK183.out 0 (.int .i64 0); have hcz62_1 := cq_ BK183.out 1 (.int .i64 0); have hfz62_0 := blk_frozen BK183.out 0; have hfz62_1 := blk_frozen BK183.out 1))
                    refine bodyPost_ret (results_cell_row rfl _ _ gb183 26 #[.int .i64 t197, .int .i64 t198] (0, 0) _ rfl (by (with_reducible repeat (first | refine blk_drewN ?_ _ | refine blk_drew ?_ | refine blk_alloc ?_ _)); refine blk_put (cs := #[.int .i64 t197, .int .i64 0]) ?_ 1 _ rfl; (with_reducible repeat (first | refine blk_drewN ?_ _ | refine blk_drew ?_ | refine blk_alloc ?_ _)); refine blk_put (cs := #[.int .i64 0, .int .i64 0]) ?_ 0 _ rfl; (with_reducible repeat (first | refine blk_drewN ?_ _ | refine blk_drew ?_ | refine blk_alloc ?_ _)); exact BK183.out) Try.underlying26 rfl (by kernel_rfl)) rfl ?_
                    exact ⟨by first | rfl | (simp [errW_none, errW_some] <;> rfl) | (simp [*, errW_none, errW_some] <;> rfl), bq_⟩
                · replace c46 := Bool.eq_false_iff.mpr c46
                  subst c46
                  have H1 : (if a1_1 = 0 then (impl_doKnown.j2 kj43 a0 (a2_1 == 0) a1_0 a1_1 a2_0 a2_1) else (impl_doKnown.j2 kj43 a0 false a1_0 a1_1 a2_0 a2_1)) = some (r1, r2) := by rw [if_neg (show ¬ (false = true) by decide)] at H; exact H
                  clear H
                  have H := H1
                  clear H1
                  have HC63 := Aside0.mk H
                  clear H
                  go_upto_region 18 with (fail)
                  go_cut [104] (fun v104 wc => ∃ (kq : Nat) (x104_62 : Bool), v104 = .bool x104_62 ∧ Aside0 (impl_doKnown.j2 kq a0 x104_62 a1_0 a1_1 a2_0 a2_1 = some (r1, r2)) ∧ Aside0 (kq ≤ kj43) ∧ Aside0 (wc.heap[gb181]? = some (.cells #[.int .i64 a1_0, .int .i64 a1_1] 26 (0, 0))) ∧ Aside0 (wc.heap[gb182]? = some (.cells #[.int .i64 a2_0, .int .i64 a2_1] 26 (0, 0))) ∧ Aside0 (wc.heap[gb183]? = some (.cells #[.int .i64 0, .int .i64 0] 26 (0, 0))) ∧ Aside0 (Below w.heap.size w wc))
                  case first =>
                    have H := HC63.out
                    clear HC63
                    by_cases c64 : a1_1 = 0
                    · rw [if_pos c64] at H
                      have c64b0 : (a1_1 == 0) = true := beq_iff_eq.mpr c64
                      have c64b1 : (a1_1 != 0) = false := bne_eq_false_iff_eq.mpr c64
                      clear c64
                      (first | rw [c64b0] | (simp only [i64_w, i32_w]; rw [c64b0]) | skip)
                      have H' := Aside0.mk H
                      clear H
                      have hnb65 := NB181_182.out
                      have hnc65 := NB182_181.out
                      have hnb66 := NB181_183.out
                      have hnc66 := NB183_181.out
                      have hcz67_0 := cq_ BK181.out 0 (.int .i64 a1_0)
                      have hcz67_1 := cq_ BK181.out 1 (.int .i64 a1_1)
                      have hfz67_0 := blk_frozen BK181.out 0
                      have hfz67_1 := blk_frozen BK181.out 1
                      have hnb68 := NB182_183.out
                      have hnc68 := NB183_182.out
                      have hcz69_0 := cq_ BK182.out 0 (.int .i64 a2_0)
                      have hcz69_1 := cq_ BK182.out 1 (.int .i64 a2_1)
                      have hfz69_0 := blk_frozen BK182.out 0
                      have hfz69_1 := blk_frozen BK182.out 1
                      go_wp2
                      go_meet
                      case rel => exact ⟨_, ((a2_1 == 0)), (by first | rfl | (simp; done) | (simp [*]; done)), H', ⟨by have := HJ3.out; have := HJ43.out; first | omega | exact Nat.le_refl _⟩, ⟨bk_ BK181.out⟩, ⟨bk_ BK182.out⟩, ⟨bk_ BK183.out⟩, ⟨bq_⟩⟩
                    · rw [if_neg c64] at H
                      have c64b0 : (a1_1 == 0) = false := beq_eq_false_iff_ne.mpr c64
                      have c64b1 : (a1_1 != 0) = true := bne_iff_ne.mpr c64
                      (first | rw [c64b0] | (simp only [i64_w, i32_w]; rw [c64b0]) | skip)
                      have H' := Aside0.mk H
                      clear H
                      have hnb70 := NB181_182.out
                      have hnc70 := NB182_181.out
                      have hnb71 := NB181_183.out
                      have hnc71 := NB183_181.out
                      have hcz72_0 := cq_ BK181.out 0 (.int .i64 a1_0)
                      have hcz72_1 := cq_ BK181.out 1 (.int .i64 a1_1)
                      have hfz72_0 := blk_frozen BK181.out 0
                      have hfz72_1 := blk_frozen BK181.out 1
                      go_wp2
                      go_meet
                      case rel => exact ⟨_, (false), (by first | rfl | (simp; done) | (simp [*]; done)), H', ⟨by have := HJ3.out; have := HJ43.out; first | omega | exact Nat.le_refl _⟩, ⟨bk_ BK181.out⟩, ⟨bk_ BK182.out⟩, ⟨bk_ BK183.out⟩, ⟨bq_⟩⟩
                  case rest =>
                    clear HC63
                    try clear c1
                    try clear c2
                    try clear p2
                    try clear c3
                    try clear c4
                    try clear c5
                    try clear c6
                    try clear p6
                    try clear c7
                    try clear c8
                    try clear c8b0
                    try clear c8b1
                    try clear c9
                    try clear c9b0
                    try clear c9b1
                    try clear c10
                    try clear c12
                    try clear c13
                    try clear c15
                    try clear c19
                    try clear c19b0
                    try clear c19b1
                    try clear c23
                    try clear c24
                    try clear c26
                    try clear c30
                    try clear c30b0
                    try clear c30b1
                    try clear c35
                    try clear c36
                    try clear c38
                    try clear c45
                    try clear c45b0
                    try clear c45b1
                    try clear c46
                    try clear c47
                    try clear c47b0
                    try clear c47b1
                    try clear c50
                    try clear c51
                    try clear c57
                    try clear c58
                    try clear c61
                    try clear c64
                    try clear c64b0
                    try clear c64b1
                    try clear p64
                    try clear c65
                    try clear c66
                    try clear c68
                    try clear c70
                    try clear c71
                    try clear hcz14_0
                    try clear hcz14_1
                    try clear hcz16_0
                    try clear hcz16_1
                    try clear hcz18_0
                    try clear hcz18_1
                    try clear hcz25_0
                    try clear hcz25_1
                    try clear hcz27_0
                    try clear hcz27_1
                    try clear hcz29_0
                    try clear hcz29_1
                    try clear hcz37_0
                    try clear hcz37_1
                    try clear hcz39_0
                    try clear hcz39_1
                    try clear hcz52_0
                    try clear hcz52_1
                    try clear hcz59_0
                    try clear hcz59_1
                    try clear hcz62_0
                    try clear hcz62_1
                    try clear hcz67_0
                    try clear hcz67_1
                    try clear hcz69_0
                    try clear hcz69_1
                    try clear hcz72_0
                    try clear hcz72_1
                    try clear hfz14_0
                    try clear hfz14_1
                    try clear hfz16_0
                    try clear hfz16_1
                    try clear hfz18_0
                    try clear hfz18_1
                    try clear hfz25_0
                    try clear hfz25_1
                    try clear hfz27_0
                    try clear hfz27_1
                    try clear hfz29_0
                    try clear hfz29_1
                    try clear hfz37_0
                    try clear hfz37_1
                    try clear hfz39_0
                    try clear hfz39_1
                    try clear hfz52_0
                    try clear hfz52_1
                    try clear hfz59_0
                    try clear hfz59_1
                    try clear hfz62_0
                    try clear hfz62_1
                    try clear hfz67_0
                    try clear hfz67_1
                    try clear hfz69_0
                    try clear hfz69_1
                    try clear hfz72_0
                    try clear hfz72_1
                    try clear p2
                    try clear p6
                    obtain ⟨kq, x104_62, rfl, HA, HJ62, BK181, BK182, BK183, HB⟩ := hcut
                    cases kq with
                    | zero => exact absurd HA.out (by simp [impl_doKnown.j2])
                    | succ kj62 =>
                      have H := HA.out
                      clear HA
                      simp only [impl_doKnown.j2] at H
                      by_cases c73 : x104_62 = true
                      · subst c73
                        have H1 : ((impl_do.f a0 a1_0 a2_0).bind fun t199 => ((impl_exact.f t199).bind fun bt200 => (some (bt200.1, bt200.2)))) = some (r1, r2) := by rw [if_pos rfl] at H; exact H
                        clear H
                        have H := H1
                        clear H1
                        replace H := Option.bind_eq_some_iff.mp H
                        obtain ⟨t199, A740, H⟩ := H
                        replace H : ((impl_exact.f t199).bind fun bt200 => (some (bt200.1, bt200.2))) = some (r1, r2) := H
                        have A74 := Aside0.mk A740
                        clear A740
                        replace H := Option.bind_eq_some_iff.mp H
                        obtain ⟨⟨t200, t201⟩, A750, H⟩ := H
                        replace H : (some (t200, t201)) = some (r1, r2) := H
                        have A75 := Aside0.mk A750
                        clear A750
                        simp only [Option.some.injEq, Prod.mk.injEq] at H
                        obtain ⟨rfl, rfl⟩ := H
                        have hnb76 := NB181_182.out
                        have hnc76 := NB182_181.out
                        have hnb77 := NB181_183.out
                        have hnc77 := NB183_181.out
                        have hcz78_0 := cq_ BK181.out 0 (.int .i64 a1_0)
                        have hcz78_1 := cq_ BK181.out 1 (.int .i64 a1_1)
                        have hfz78_0 := blk_frozen BK181.out 0
                        have hfz78_1 := blk_frozen BK181.out 1
                        have hnb79 := NB182_183.out
                        have hnc79 := NB183_182.out
                        have hcz80_0 := cq_ BK182.out 0 (.int .i64 a2_0)
                        have hcz80_1 := cq_ BK182.out 1 (.int .i64 a2_1)
                        have hfz80_0 := blk_frozen BK182.out 0
                        have hfz80_1 := blk_frozen BK182.out 1
                        go_wp2_with (first | ((with_reducible refine gate_callee (f := 80) rfl ?_); refine goesL_ (some 110) rfl rfl Try.func80 (by kernel_rfl) rfl #[.int .i64 a0, .int .i64 a1_0, .int .i64 a2_0] rfl (by (try simp only [List.map_toArray, List.map_cons, List.map_nil]); first | done | rfl | (simp only [List.length_drop, List.length_take]; rfl)) ?_; (with_reducible refine (impl_do.calls a0 a1_0 a2_0 t199 _ A74.out).mono ?_); rintro e w' ⟨rfl, ⟨nd, rfl⟩⟩; refine ⟨_, rfl, ?_⟩; (try (rw [drewN_self wc]; generalize hq_ : World.drewN wc _ = wc; have n0_ : Aside0 (wc.heap[gb181]? = some (.cells #[.int .i64 a1_0, .int .i64 a1_1] 26 (0, 0))) := ⟨by rw [← hq_]; exact (bk_ BK181.out)⟩; have n1_ : Aside0 (wc.heap[gb182]? = some (.cells #[.int .i64 a2_0, .int .i64 a2_1] 26 (0, 0))) := ⟨by rw [← hq_]; exact (bk_ BK182.out)⟩; have n2_ : Aside0 (wc.heap[gb183]? = some (.cells #[.int .i64 0, .int .i64 0] 26 (0, 0))) := ⟨by rw [← hq_]; exact (bk_ BK183.out)⟩; have n3_ : Aside0 (Below w.heap.size w wc) := ⟨by rw [← hq_]; exact (bq_)⟩; clear BK181 BK182 BK183 HB hq_; have BK181 := n0_; have BK182 := n1_; have BK183 := n2_; have HB := n3_; clear n0_ n1_ n2_ n3_))) | ((with_reducible refine gate_callee (f := 57) rfl ?_); refine goesL_ (some 111) rfl rfl Try.func57 (by kernel_rfl) rfl #[.int .i64 t199] rfl (by (try simp only [List.map_toArray, List.map_cons, List.map_nil]); first | done | rfl | (simp only [List.length_drop, List.length_take]; rfl)) ?_; (with_reducible refine (impl_exact.calls t199 t200 t201 _ A75.out).mono ?_); rintro e w81 ⟨rfl, hb⟩; refine ⟨_, rfl, ?_⟩; have n0_ := Aside0.mk (blk_below (bk_ BK181.out) hb); have n1_ := Aside0.mk (blk_below (bk_ BK182.out) hb); have n2_ := Aside0.mk (blk_below (bk_ BK183.out) hb); have n3_ := Aside0.mk (below_step (bq_) hb); clear BK181; clear BK182; clear BK183; clear HB; have BK181 := n0_; have BK182 := n1_; have BK183 := n2_; have HB := n3_; clear n0_ n1_ n2_ n3_; (try clear hb); (try clear hb2); (try clear hk); (try clear hi); have hcz82_0 := cq_ BK183.out 0 (.int .i64 0); have hcz82_1 := cq_ BK183.out 1 (.int .i64 0); have hfz82_0 := blk_frozen BK183.out 0; have hfz82_1 := blk_frozen BK183.out 1))
                        refine bodyPost_ret (results_cell_row rfl _ _ gb183 26 #[.int .i64 t200, .int .i64 t201] (0, 0) _ rfl (by (with_reducible repeat (first | refine blk_drewN ?_ _ | refine blk_drew ?_ | refine blk_alloc ?_ _)); refine blk_put (cs := #[.int .i64 t200, .int .i64 0]) ?_ 1 _ rfl; (with_reducible repeat (first | refine blk_drewN ?_ _ | refine blk_drew ?_ | refine blk_alloc ?_ _)); refine blk_put (cs := #[.int .i64 0, .int .i64 0]) ?_ 0 _ rfl; (with_reducible repeat (first | refine blk_drewN ?_ _ | refine blk_drew ?_ | refine blk_alloc ?_ _)); exact BK183.out) Try.underlying26 rfl (by kernel_rfl)) rfl ?_
                        exact ⟨by first | rfl | (simp [errW_none, errW_some] <;> rfl) | (simp [*, errW_none, errW_some] <;> rfl), bq_⟩
                      · replace c73 := Bool.eq_false_iff.mpr c73
                        subst c73
                        have H1 : ((impl_unknown.f).bind fun bt202 => (some (bt202.1, bt202.2))) = some (r1, r2) := by rw [if_neg (show ¬ (false = true) by decide)] at H; exact H
                        clear H
                        have H := H1
                        clear H1
                        replace H := Option.bind_eq_some_iff.mp H
                        obtain ⟨⟨t202, t203⟩, A830, H⟩ := H
                        replace H : (some (t202, t203)) = some (r1, r2) := H
                        have A83 := Aside0.mk A830
                        clear A830
                        simp only [Option.some.injEq, Prod.mk.injEq] at H
                        obtain ⟨rfl, rfl⟩ := H
                        go_wp2_with (first | ((with_reducible refine gate_callee (f := 102) rfl ?_); refine goesL_ (some 112) rfl rfl Try.func102 (by kernel_rfl) rfl #[] rfl (by (try simp only [List.map_toArray, List.map_cons, List.map_nil]); first | done | rfl | (simp only [List.length_drop, List.length_take]; rfl)) ?_; (with_reducible refine (impl_unknown.calls  t202 t203 _ A83.out).mono ?_); rintro e w84 ⟨rfl, hb⟩; refine ⟨_, rfl, ?_⟩; have n0_ := Aside0.mk (blk_below (bk_ BK181.out) hb); have n1_ := Aside0.mk (blk_below (bk_ BK182.out) hb); have n2_ := Aside0.mk (blk_below (bk_ BK183.out) hb); have n3_ := Aside0.mk (below_step (bq_) hb); clear BK181; clear BK182; clear BK183; clear HB; have BK181 := n0_; have BK182 := n1_; have BK183 := n2_; have HB := n3_; clear n0_ n1_ n2_ n3_; (try clear hb); (try clear hb2); (try clear hk); (try clear hi); have hnb85 := NB183_181.out; have hnc85 := NB181_183.out; have hnb86 := NB183_182.out; have hnc86 := NB182_183.out; have hcz87_0 := cq_ BK183.out 0 (.int .i64 0); have hcz87_1 := cq_ BK183.out 1 (.int .i64 0); have hfz87_0 := blk_frozen BK183.out 0; have hfz87_1 := blk_frozen BK183.out 1))
                        refine bodyPost_ret (results_cell_row rfl _ _ gb183 26 #[.int .i64 t202, .int .i64 t203] (0, 0) _ rfl (by (with_reducible repeat (first | refine blk_drewN ?_ _ | refine blk_drew ?_ | refine blk_alloc ?_ _)); refine blk_put (cs := #[.int .i64 t202, .int .i64 0]) ?_ 1 _ rfl; (with_reducible repeat (first | refine blk_drewN ?_ _ | refine blk_drew ?_ | refine blk_alloc ?_ _)); refine blk_put (cs := #[.int .i64 0, .int .i64 0]) ?_ 0 _ rfl; (with_reducible repeat (first | refine blk_drewN ?_ _ | refine blk_drew ?_ | refine blk_alloc ?_ _)); exact BK183.out) Try.underlying26 rfl (by kernel_rfl)) rfl ?_
                        exact ⟨by first | rfl | (simp [errW_none, errW_some] <;> rfl) | (simp [*, errW_none, errW_some] <;> rfl), bq_⟩

end Go.Proofs.Ytggddmpomdpdjaa.PFK
