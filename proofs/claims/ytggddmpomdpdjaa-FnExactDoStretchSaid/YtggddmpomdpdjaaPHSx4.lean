-- Made by myprint.py (this session's program, over the kit's print) for this claim. Lean checks it.
import Derived.Test.YtggddmpomdpdjaaPHSx0
import Derived.Test.YtggddmpomdpdjaaPHSx2
import Derived.Test.YtggddmpomdpdjaaPHSx3
namespace Go.Proofs.Ytggddmpomdpdjaa.PHS
open Go.RowKit Go.Proofs.YtggddmpomdpdjaaW.PrintWords Go.Proofs.YtggddmpomdpdjaaW.PrintLast Go.Proofs.YtggddmpomdpdjaaW.PrintMore
attribute [local go_sem] max2_int min2_int max_two min_two max_three min_three max_four min_four   -- for this text's walks alone
set_option linter.unusedVariables false
set_option linter.unusedSimpArgs false

/-! ### laws_FnExactDoStretch: function 6 -/
def laws_FnExactDoStretch.f (k : Nat) (a0 : Int) (a1_0 : Int) (a1_1 : Int) (a2_0 : Int) (a2_1 : Int) : Option (Bool) := (laws_toStretch.f a1_0 a1_1).bind fun bt199 => ((laws_toStretch.f a2_0 a2_1).bind fun bt201 => ((spec_DoStretch.f k a0 bt199.1 bt199.2 bt201.1 bt201.2).bind fun bt203 => ((laws_toStretch.f a1_0 a1_1).bind fun bt207 => ((laws_toStretch.f a2_0 a2_1).bind fun bt209 => ((impl_DoStretch.f k a0 bt207.1 bt207.2 bt209.1 bt209.2).bind fun bt211 => ((laws_eqStretch.f bt211.1 bt211.2.1 bt203.1 bt203.2.1).bind fun t215 => (if t215 = true then (if (bt211.2.2 != bt203.2.2) = true then (some false) else (some true)) else (some false))))))))
theorem laws_FnExactDoStretch.mono : ∀ a0 a1 a2 a3 a4 k, LeO (laws_FnExactDoStretch.f k a0 a1 a2 a3 a4) (laws_FnExactDoStretch.f (k + 1) a0 a1 a2 a3 a4) := by
  intro a0 a1 a2 a3 a4 k
  unfold laws_FnExactDoStretch.f
  repeat' first
      | (with_reducible exact impl_DoStretch.mono _ _ _ _ _ _)
      | (with_reducible exact spec_DoStretch.mono _ _ _ _ _ _)
      | (with_reducible exact LeO.refl _)
      | (with_reducible exact LeO.none _)
      | (with_reducible refine LeO.ite ?_ ?_)
      | (with_reducible refine LeO.bind ?_ (fun _ => ?_))
      | exact impl_DoStretch.mono _ _ _ _ _ _
      | exact spec_DoStretch.mono _ _ _ _ _ _
      | exact LeO.none _
      | refine LeO.ite ?_ ?_
      | refine LeO.bind ?_ (fun _ => ?_)
def laws_FnExactDoStretch.T1 : Bool × List (List Nat × List Nat) := (true, [([], []), ([], []), ([1], [1]), ([], []), ([3, 2], [3]), ([0, 2, 4, 4], [0, 2, 4]), ([5], [5]), ([6], [6]), ([6], [6]), ([], []), ([9, 7, 5, 0, 1, 2, 3, 4, 5, 6, 7, 9], [7, 9]), ([8, 10, 0, 1, 2, 3, 4, 5, 6, 7, 8, 9, 10], [8])])
def laws_FnExactDoStretch.B1 : List Nat := [0, 0, 2, 0, 14, 31, 63, 127, 127, 0, 767, 2047]
theorem laws_FnExactDoStretch.tab1 : rtab .any (opsOf Try.f6 1) = laws_FnExactDoStretch.T1 := by kernel_rfl
theorem laws_FnExactDoStretch.bits1 : waitsOk laws_FnExactDoStretch.T1.2 laws_FnExactDoStretch.B1 = true := by kernel_rfl
def laws_FnExactDoStretch.T2 : Bool × List (List Nat × List Nat) := (true, [([], []), ([], []), ([1], [1]), ([], []), ([3, 2], [3]), ([0, 2, 4, 4], [0, 2, 4]), ([5], [5]), ([6], [6]), ([6], [6]), ([], []), ([9, 7, 5, 0, 1, 2, 3, 4, 5, 6, 7, 9], [7, 9]), ([8, 10, 0, 1, 2, 3, 4, 5, 6, 7, 8, 9, 10], [8])])
def laws_FnExactDoStretch.B2 : List Nat := [0, 0, 2, 0, 14, 31, 63, 127, 127, 0, 767, 2047]
theorem laws_FnExactDoStretch.tab2 : rtab .any (opsOf Try.f6 2) = laws_FnExactDoStretch.T2 := by kernel_rfl
theorem laws_FnExactDoStretch.bits2 : waitsOk laws_FnExactDoStretch.T2.2 laws_FnExactDoStretch.B2 = true := by kernel_rfl
set_option maxHeartbeats 8000000 in
set_option maxRecDepth 100000 in
theorem laws_FnExactDoStretch.calls (k : Nat) (a0 : Int) (a1_0 : Int) (a1_1 : Int) (a2_0 : Int) (a2_1 : Int) (r : Bool) (w : World) (hr_ : Aside0 (r = true)) (h : laws_FnExactDoStretch.f k a0 a1_0 a1_1 a2_0 a2_1 = some r) :
    Calls Try.prog 6 #[.int .i64 a0, .agg #[.int .i64 a1_0, .int .i64 a1_1], .agg #[.int .i64 a2_0, .int .i64 a2_1]] w fun e w' => e = .returned (.bool r) ∧ Below w.heap.size w w' := by
  have hu39 := Try.underlying39
  have hu40 := Try.underlying40
  have HB := Aside0.mk (Below.refl w.heap.size w)
  have H : ((laws_toStretch.f a1_0 a1_1).bind fun bt199 => ((laws_toStretch.f a2_0 a2_1).bind fun bt201 => ((spec_DoStretch.f k a0 bt199.1 bt199.2 bt201.1 bt201.2).bind fun bt203 => ((laws_toStretch.f a1_0 a1_1).bind fun bt207 => ((laws_toStretch.f a2_0 a2_1).bind fun bt209 => ((impl_DoStretch.f k a0 bt207.1 bt207.2 bt209.1 bt209.2).bind fun bt211 => ((laws_eqStretch.f bt211.1 bt211.2.1 bt203.1 bt203.2.1).bind fun t215 => (if t215 = true then (if (bt211.2.2 != bt203.2.2) = true then (some false) else (some true)) else (some false))))))))) = some r := h
  clear h
  replace H := Option.bind_eq_some_iff.mp H
  obtain ⟨⟨t199, t200⟩, A40, H⟩ := H
  replace H : ((laws_toStretch.f a2_0 a2_1).bind fun bt201 => ((spec_DoStretch.f k a0 t199 t200 bt201.1 bt201.2).bind fun bt203 => ((laws_toStretch.f a1_0 a1_1).bind fun bt207 => ((laws_toStretch.f a2_0 a2_1).bind fun bt209 => ((impl_DoStretch.f k a0 bt207.1 bt207.2 bt209.1 bt209.2).bind fun bt211 => ((laws_eqStretch.f bt211.1 bt211.2.1 bt203.1 bt203.2.1).bind fun t215 => (if t215 = true then (if (bt211.2.2 != bt203.2.2) = true then (some false) else (some true)) else (some false)))))))) = some r := H
  have A4 := Aside0.mk A40
  clear A40
  replace H := Option.bind_eq_some_iff.mp H
  obtain ⟨⟨t201, t202⟩, A50, H⟩ := H
  replace H : ((spec_DoStretch.f k a0 t199 t200 t201 t202).bind fun bt203 => ((laws_toStretch.f a1_0 a1_1).bind fun bt207 => ((laws_toStretch.f a2_0 a2_1).bind fun bt209 => ((impl_DoStretch.f k a0 bt207.1 bt207.2 bt209.1 bt209.2).bind fun bt211 => ((laws_eqStretch.f bt211.1 bt211.2.1 bt203.1 bt203.2.1).bind fun t215 => (if t215 = true then (if (bt211.2.2 != bt203.2.2) = true then (some false) else (some true)) else (some false))))))) = some r := H
  have A5 := Aside0.mk A50
  clear A50
  replace H := Option.bind_eq_some_iff.mp H
  obtain ⟨⟨t203, t204, t205⟩, A60, H⟩ := H
  replace H : ((laws_toStretch.f a1_0 a1_1).bind fun bt207 => ((laws_toStretch.f a2_0 a2_1).bind fun bt209 => ((impl_DoStretch.f k a0 bt207.1 bt207.2 bt209.1 bt209.2).bind fun bt211 => ((laws_eqStretch.f bt211.1 bt211.2.1 t203 t204).bind fun t215 => (if t215 = true then (if (bt211.2.2 != t205) = true then (some false) else (some true)) else (some false)))))) = some r := H
  have A6 := Aside0.mk A60
  clear A60
  replace H := Option.bind_eq_some_iff.mp H
  obtain ⟨⟨t207, t208⟩, A70, H⟩ := H
  replace H : ((laws_toStretch.f a2_0 a2_1).bind fun bt209 => ((impl_DoStretch.f k a0 t207 t208 bt209.1 bt209.2).bind fun bt211 => ((laws_eqStretch.f bt211.1 bt211.2.1 t203 t204).bind fun t215 => (if t215 = true then (if (bt211.2.2 != t205) = true then (some false) else (some true)) else (some false))))) = some r := H
  have A7 := Aside0.mk A70
  clear A70
  replace H := Option.bind_eq_some_iff.mp H
  obtain ⟨⟨t209, t210⟩, A80, H⟩ := H
  replace H : ((impl_DoStretch.f k a0 t207 t208 t209 t210).bind fun bt211 => ((laws_eqStretch.f bt211.1 bt211.2.1 t203 t204).bind fun t215 => (if t215 = true then (if (bt211.2.2 != t205) = true then (some false) else (some true)) else (some false)))) = some r := H
  have A8 := Aside0.mk A80
  clear A80
  replace H := Option.bind_eq_some_iff.mp H
  obtain ⟨⟨t211, t212, t213⟩, A90, H⟩ := H
  replace H : ((laws_eqStretch.f t211 t212 t203 t204).bind fun t215 => (if t215 = true then (if (t213 != t205) = true then (some false) else (some true)) else (some false))) = some r := H
  have A9 := Aside0.mk A90
  clear A90
  replace H := Option.bind_eq_some_iff.mp H
  obtain ⟨t215, A100, H⟩ := H
  replace H : (if t215 = true then (if (t213 != t205) = true then (some false) else (some true)) else (some false)) = some r := H
  have A10 := Aside0.mk A100
  clear A100
  by_cases c11 : t215 = true
  · subst c11
    have H1 : (if (t213 != t205) = true then (some false) else (some true)) = some r := by rw [if_pos rfl] at H; exact H
    clear H
    have H := H1
    clear H1
    by_cases c12 : (t213 != t205) = true
    · rw [if_pos c12] at H
      have c12b0 : (t213 != t205) = true := c12
      (try (have c12b1 : decide (t213 = t205) = false := by simpa using c12))
      (try (have c12b2 : (t213 == t205) = false := by simpa using c12))
      (try (have c12b3 : ¬ (t213 = t205) := by simpa using c12))
      clear c12
      exact absurd (Option.some.inj H).symm (by rw [hr_.out]; simp)
    · rw [if_neg c12] at H
      have c12b0 : (t213 != t205) = false := by simpa using c12
      (try (have c12b1 : decide (t213 = t205) = true := by simpa using c12))
      (try (have c12b2 : (t213 == t205) = true := by simpa using c12))
      clear c12
      obtain rfl := Option.some.inj H
      go_enter Try.func6, Try.ntmps6
      try go_wp2_with (first | ((with_reducible refine gate_dst (N := 4) rfl ?_); refine box_event ?hg (N := 4) ?hd (cs := #[.int .i64 a1_0, .int .i64 a1_1]) (t := 39) ?hr ?_; (case hd => rfl); (case hg => rfl); (case hr => first | (go_simp; done) | (go_simp; rfl)); intro gb197 hg w13 hbox hb; have n0_ := Aside0.mk (below_step (by repeat (first | (with_reducible first | exact HB.out | apply below_alloc | apply pw_below_drewN | apply below_drew1) | exact HB.out)) hb); have n1_ := Aside0.mk (hbox); have n2_ := Aside0.mk ((by rw [hg]; exact (below_size (by repeat (first | (with_reducible first | exact HB.out | apply below_alloc | apply pw_below_drewN | apply below_drew1) | exact HB.out))) : w.heap.size ≤ gb197)); have n3_ := Aside0.mk ((by rw [hg]; exact (below_size (by repeat (first | (with_reducible first | exact HB.out | apply below_alloc | apply pw_below_drewN | apply below_drew1) | exact HB.out))) : w.heap.size ≤ gb197)); clear HB; have HB := n0_; have BK197 := n1_; have GW197 := n2_; have GE197 := n3_; clear n0_ n1_ n2_ n3_; clear hb hbox hg) | ((with_reducible refine gate_dst (N := 5) rfl ?_); refine box_event ?hg (N := 5) ?hd (cs := #[.int .i64 a2_0, .int .i64 a2_1]) (t := 39) ?hr ?_; (case hd => rfl); (case hg => rfl); (case hr => first | (go_simp; done) | (go_simp; rfl)); intro gb198 hg w14 hbox hb; have n0_ := Aside0.mk (blk_below (g := gb197) (o := .cells #[.int .i64 a1_0, .int .i64 a1_1] 39 (0, 0)) (by (with_reducible repeat (first | refine blk_drewN ?_ _ | refine blk_drew ?_ | refine blk_alloc ?_ _)); exact BK197.out) hb); have n1_ := Aside0.mk (below_step (by repeat (first | (with_reducible first | exact HB.out | apply below_alloc | apply pw_below_drewN | apply below_drew1 | refine below_set ?_ GE197.out) | exact HB.out)) hb); have n2_ := Aside0.mk (hbox); have n3_ := Aside0.mk ((by rw [hg]; exact (below_size (by repeat (first | (with_reducible first | exact HB.out | apply below_alloc | apply pw_below_drewN | apply below_drew1 | refine below_set ?_ GE197.out) | exact HB.out))) : w.heap.size ≤ gb198)); have n4_ := Aside0.mk ((by rw [hg]; exact (below_size (by repeat (first | (with_reducible first | exact HB.out | apply below_alloc | apply pw_below_drewN | apply below_drew1 | refine below_set ?_ GE197.out) | exact HB.out))) : w.heap.size ≤ gb198)); have n5_ := Aside0.mk ((by rw [hg]; exact Nat.ne_of_lt (blk_lt (g := gb197) (o := .cells #[.int .i64 a1_0, .int .i64 a1_1] 39 (0, 0)) (by (with_reducible repeat (first | refine blk_drewN ?_ _ | refine blk_drew ?_ | refine blk_alloc ?_ _)); exact BK197.out)) : gb197 ≠ gb198)); have n6_ := Aside0.mk ((by rw [hg]; exact Nat.ne_of_gt (blk_lt (g := gb197) (o := .cells #[.int .i64 a1_0, .int .i64 a1_1] 39 (0, 0)) (by (with_reducible repeat (first | refine blk_drewN ?_ _ | refine blk_drew ?_ | refine blk_alloc ?_ _)); exact BK197.out)) : gb198 ≠ gb197)); clear BK197; clear HB; have BK197 := n0_; have HB := n1_; have BK198 := n2_; have GW198 := n3_; have GE198 := n4_; have NB197_198 := n5_; have NB198_197 := n6_; clear n0_ n1_ n2_ n3_ n4_ n5_ n6_; clear hb hbox hg))
      have n0_ := Aside0.mk (blk_drew BK197.out)
      have n1_ := Aside0.mk (blk_drew BK198.out)
      have n2_ := Aside0.mk (below_drew1 HB.out)
      clear BK197
      clear BK198
      clear HB
      have BK197 := n0_
      have BK198 := n1_
      have HB := n2_
      clear n0_ n1_ n2_
      refine start_ (n := 12) (S := fun w' => True) (ds := []) #[false, false, false, false, false, false, false, false, false, false, false, false] (by kernel_rfl) rfl rfl trivial (fun hHeld => ?_); refine with_tabW laws_FnExactDoStretch.tab1 laws_FnExactDoStretch.bits1 (fun HT_ HW_ => ?_)
      generalize w14.drew = w15 at BK197 BK198 HB hHeld ⊢
      refine pure_ (i := 0) (N := some 12) (v := ?_) (a' := ?_) #[true, false, false, false, false, false, false, false, false, false, false, false] rfl rfl (any_of HT_.out (by kernel_rfl)) (fun _ _ _ h => h) (Or.inl ⟨by rfl, ?_⟩) ?_ ?_
      rotate_left
      · intro w'
        go_simp
        with_reducible rfl
      rotate_left
      · simp only [Act.put, List.setIfInBounds_toArray, List.set_cons_zero, List.set_cons_succ, i64_w, i32_w]
        rfl
      refine inv_at [1, 2, 3, 4, 5, 6, 7, 8, 9, 10, 11] (fun a0_ b a w' => ∃ (gb206 : Nat) (m9_ : Value), a = putSel a0_ b [(1, 13, .agg #[.int .i64 a1_0, .int .i64 a1_1]), (2, 14, .agg #[.int .i64 t199, .int .i64 t200]), (3, 15, .agg #[.int .i64 a2_0, .int .i64 a2_1]), (4, 16, .agg #[.int .i64 t201, .int .i64 t202]), (5, 17, .tuple #[.agg #[.int .i64 t203, .int .i64 t204], .bool t205]), (6, 11, .tuple #[.agg #[.int .i64 t203, .int .i64 t204], .bool t205]), (7, 18, .agg #[.int .i64 t203, .int .i64 t204]), (8, 19, .bool t205), (9, 7, m9_), (11, 8, .bool t205)] ∧ (w'.heap[gb197]? = some (.cells #[.int .i64 a1_0, .int .i64 a1_1] 39 (0, 0))) ∧ (w'.heap[gb198]? = some (.cells #[.int .i64 a2_0, .int .i64 a2_1] 39 (0, 0))) ∧ (Below w.heap.size w w') ∧ (b 9 = true → b 10 = false → w'.heap[gb206]? = some (.cells #[.int .i64 0, .int .i64 0] 40 (0, 0))) ∧ (b 9 = true → w.heap.size ≤ gb206) ∧ (b 9 = true → w.heap.size ≤ gb206) ∧ (b 9 = true → gb197 ≠ gb206) ∧ (b 9 = true → gb206 ≠ gb197) ∧ (b 9 = true → gb198 ≠ gb206) ∧ (b 9 = true → gb206 ≠ gb198) ∧ (b 10 = true → w'.heap[gb206]? = some (.cells #[.int .i64 t203, .int .i64 t204] 40 (0, 0))) ∧ (b 9 = true → (m9_ : Value) = .pointer (some ⟨gb206, 0, none⟩))) HT_.out HW_.out (by kernel_rfl) (by kernel_rfl) ?_ ?_ ?_
      · exact ⟨0, .bool false, by simp only [putSel, Bool.false_eq_true, if_false], BK197.out, BK198.out, HB.out, fun h_ => absurd h_ (by decide), fun h_ => absurd h_ (by decide), fun h_ => absurd h_ (by decide), fun h_ => absurd h_ (by decide), fun h_ => absurd h_ (by decide), fun h_ => absurd h_ (by decide), fun h_ => absurd h_ (by decide), fun h_ => absurd h_ (by decide), fun h_ => absurd h_ (by decide)⟩
      · skip
        clear BK197 BK198 HB
        refine steps_cons ?_ ?_
        · rintro b a w' ⟨gb206, m9_, ha, Q_BK197, Q_BK198, Q_HB, Q_BK206, Q_GW206, Q_GE206, Q_NB197_206, Q_NB206_197, Q_NB198_206, Q_NB206_198, Q_BK206_e10, Q_X9_⟩ hb_ hon hoff
          refine ⟨_, rfl, fun K hK => ?_⟩
          have e4 : a.tmps[4]? = some (.pointer (some ⟨gb197, 0, none⟩)) := by rw [ha]; exact (putSel_off rfl).trans rfl
          replace ha := Aside0.mk ha
          have BK197 := Aside0.mk Q_BK197
          have BK198 := Aside0.mk Q_BK198
          have HB := Aside0.mk Q_HB
          have hc0_ : w'.cell? ⟨gb197, 0, none⟩ = some (.int .i64 a1_0) := (blk_cell BK197.out 0).trans rfl
          have hc1_ : w'.cell? ⟨gb197, 1, none⟩ = some (.int .i64 a1_1) := (blk_cell BK197.out 1).trans rfl
          refine value_ (w1 := w') (v := .agg #[.int .i64 a1_0, .int .i64 a1_1]) (by rfl) rfl ?_ ?_
          · go_simp
            (try simp only [i64_w])
            try rfl
          refine hK.out _ _ ⟨gb206, m9_, (by rw [ha.out]; exact putSel_upk 0 hb_ rfl rfl rfl), Q_BK197, Q_BK198, Q_HB, Q_BK206, Q_GW206, Q_GE206, Q_NB197_206, Q_NB206_197, Q_NB198_206, Q_NB206_198, fun h0_ => absurd ((hoff 10 (by kernel_rfl)).symm.trans h0_) (by decide), Q_X9_⟩
        refine steps_cons ?_ ?_
        · rintro b a w' ⟨gb206, m9_, ha, Q_BK197, Q_BK198, Q_HB, Q_BK206, Q_GW206, Q_GE206, Q_NB197_206, Q_NB206_197, Q_NB198_206, Q_NB206_198, Q_BK206_e10, Q_X9_⟩ hb_ hon hoff
          refine ⟨_, rfl, fun K hK => ?_⟩
          have e13 : a.tmps[13]? = some (.agg #[.int .i64 a1_0, .int .i64 a1_1]) := by rw [ha]; exact putSel_on (e := (1, 13, .agg #[.int .i64 a1_0, .int .i64 a1_1])) 0 rfl rfl (hon 1 (by kernel_rfl)) rfl
          replace ha := Aside0.mk ha
          have BK197 := Aside0.mk Q_BK197
          have BK198 := Aside0.mk Q_BK198
          have HB := Aside0.mk Q_HB
          refine goes_ Try.func22 (by kernel_rfl) rfl #[.agg #[.int .i64 a1_0, .int .i64 a1_1]] (by rfl) rfl rfl (by first | (simp only [List.map_toArray, List.map_cons, List.map_nil, Act.eval, Array.getD_eq_getD_getElem?, Option.getD_some, e13]; done) | (simp only [List.map_toArray, List.map_cons, List.map_nil, Act.eval, Array.getD_eq_getD_getElem?, Option.getD_some, e13]; rfl)) ?_
          with_reducible refine (laws_toStretch.calls a1_0 a1_1 t199 t200 _ A4.out).mono ?_
          rintro e w16 ⟨rfl, hb⟩
          refine ⟨_, rfl, ?_⟩
          have n0_ := Aside0.mk (blk_below (g := gb197) (o := .cells #[.int .i64 a1_0, .int .i64 a1_1] 39 (0, 0)) (by (with_reducible repeat (first | refine blk_drewN ?_ _ | refine blk_drew ?_ | refine blk_alloc ?_ _)); exact BK197.out) hb)
          have n1_ := Aside0.mk (blk_below (g := gb198) (o := .cells #[.int .i64 a2_0, .int .i64 a2_1] 39 (0, 0)) (by (with_reducible repeat (first | refine blk_drewN ?_ _ | refine blk_drew ?_ | refine blk_alloc ?_ _)); exact BK198.out) hb)
          have n2_ := Aside0.mk (below_step (by repeat (first | (with_reducible first | exact HB.out | apply below_alloc | apply pw_below_drewN | apply below_drew1 | refine below_set ?_ GE197.out | refine below_set ?_ GE198.out) | exact HB.out)) hb)
          have z_BK206 := fun (h0_ : b 9 = true) (h1_ : b 10 = false) => (show w16.heap[gb206]? = some (.cells #[.int .i64 0, .int .i64 0] 40 (0, 0)) from by first | exact (blk_below (g := gb206) (o := .cells #[.int .i64 0, .int .i64 0] 40 (0, 0)) (by (with_reducible repeat (first | refine blk_drewN ?_ _ | refine blk_drew ?_ | refine blk_alloc ?_ _)); exact (Q_BK206 h0_ h1_)) hb))
          clear BK197
          clear BK198
          clear HB
          have BK197 := n0_
          have BK198 := n1_
          have HB := n2_
          clear n0_ n1_ n2_
          (try clear hb)
          (try clear hb2)
          (try clear hk)
          (try clear hi)
          refine hK.out _ _ ⟨gb206, m9_, (by rw [ha.out]; exact putSel_upk 1 hb_ rfl rfl rfl), (by (with_reducible repeat (first | refine blk_drewN ?_ _ | refine blk_drew ?_ | refine blk_alloc ?_ _)); exact BK197.out), (by (with_reducible repeat (first | refine blk_drewN ?_ _ | refine blk_drew ?_ | refine blk_alloc ?_ _)); exact BK198.out), (by repeat (first | (with_reducible first | exact HB.out | apply below_alloc | apply pw_below_drewN | apply below_drew1 | refine below_set ?_ GE197.out | refine below_set ?_ GE198.out) | exact HB.out)), z_BK206, Q_GW206, Q_GE206, Q_NB197_206, Q_NB206_197, Q_NB198_206, Q_NB206_198, fun h0_ => absurd ((hoff 10 (by kernel_rfl)).symm.trans h0_) (by decide), Q_X9_⟩
        refine steps_cons ?_ ?_
        · rintro b a w' ⟨gb206, m9_, ha, Q_BK197, Q_BK198, Q_HB, Q_BK206, Q_GW206, Q_GE206, Q_NB197_206, Q_NB206_197, Q_NB198_206, Q_NB206_198, Q_BK206_e10, Q_X9_⟩ hb_ hon hoff
          refine ⟨_, rfl, fun K hK => ?_⟩
          have e5 : a.tmps[5]? = some (.pointer (some ⟨gb198, 0, none⟩)) := by rw [ha]; exact (putSel_off rfl).trans rfl
          replace ha := Aside0.mk ha
          have BK197 := Aside0.mk Q_BK197
          have BK198 := Aside0.mk Q_BK198
          have HB := Aside0.mk Q_HB
          have hc0_ : w'.cell? ⟨gb198, 0, none⟩ = some (.int .i64 a2_0) := (blk_cell BK198.out 0).trans rfl
          have hc1_ : w'.cell? ⟨gb198, 1, none⟩ = some (.int .i64 a2_1) := (blk_cell BK198.out 1).trans rfl
          refine value_ (w1 := w') (v := .agg #[.int .i64 a2_0, .int .i64 a2_1]) (by rfl) rfl ?_ ?_
          · go_simp
            (try simp only [i64_w])
            try rfl
          refine hK.out _ _ ⟨gb206, m9_, (by rw [ha.out]; exact putSel_upk 2 hb_ rfl rfl rfl), Q_BK197, Q_BK198, Q_HB, Q_BK206, Q_GW206, Q_GE206, Q_NB197_206, Q_NB206_197, Q_NB198_206, Q_NB206_198, fun h0_ => absurd ((hoff 10 (by kernel_rfl)).symm.trans h0_) (by decide), Q_X9_⟩
        refine steps_cons ?_ ?_
        · rintro b a w' ⟨gb206, m9_, ha, Q_BK197, Q_BK198, Q_HB, Q_BK206, Q_GW206, Q_GE206, Q_NB197_206, Q_NB206_197, Q_NB198_206, Q_NB206_198, Q_BK206_e10, Q_X9_⟩ hb_ hon hoff
          refine ⟨_, rfl, fun K hK => ?_⟩
          have e15 : a.tmps[15]? = some (.agg #[.int .i64 a2_0, .int .i64 a2_1]) := by rw [ha]; exact putSel_on (e := (3, 15, .agg #[.int .i64 a2_0, .int .i64 a2_1])) 2 rfl rfl (hon 3 (by kernel_rfl)) rfl
          replace ha := Aside0.mk ha
          have BK197 := Aside0.mk Q_BK197
          have BK198 := Aside0.mk Q_BK198
          have HB := Aside0.mk Q_HB
          refine goes_ Try.func22 (by kernel_rfl) rfl #[.agg #[.int .i64 a2_0, .int .i64 a2_1]] (by rfl) rfl rfl (by first | (simp only [List.map_toArray, List.map_cons, List.map_nil, Act.eval, Array.getD_eq_getD_getElem?, Option.getD_some, e15]; done) | (simp only [List.map_toArray, List.map_cons, List.map_nil, Act.eval, Array.getD_eq_getD_getElem?, Option.getD_some, e15]; rfl)) ?_
          with_reducible refine (laws_toStretch.calls a2_0 a2_1 t201 t202 _ A5.out).mono ?_
          rintro e w18 ⟨rfl, hb⟩
          refine ⟨_, rfl, ?_⟩
          have n0_ := Aside0.mk (blk_below (g := gb197) (o := .cells #[.int .i64 a1_0, .int .i64 a1_1] 39 (0, 0)) (by (with_reducible repeat (first | refine blk_drewN ?_ _ | refine blk_drew ?_ | refine blk_alloc ?_ _)); exact BK197.out) hb)
          have n1_ := Aside0.mk (blk_below (g := gb198) (o := .cells #[.int .i64 a2_0, .int .i64 a2_1] 39 (0, 0)) (by (with_reducible repeat (first | refine blk_drewN ?_ _ | refine blk_drew ?_ | refine blk_alloc ?_ _)); exact BK198.out) hb)
          have n2_ := Aside0.mk (below_step (by repeat (first | (with_reducible first | exact HB.out | apply below_alloc | apply pw_below_drewN | apply below_drew1 | refine below_set ?_ GE197.out | refine below_set ?_ GE198.out) | exact HB.out)) hb)
          have z_BK206 := fun (h0_ : b 9 = true) (h1_ : b 10 = false) => (show w18.heap[gb206]? = some (.cells #[.int .i64 0, .int .i64 0] 40 (0, 0)) from by first | exact (blk_below (g := gb206) (o := .cells #[.int .i64 0, .int .i64 0] 40 (0, 0)) (by (with_reducible repeat (first | refine blk_drewN ?_ _ | refine blk_drew ?_ | refine blk_alloc ?_ _)); exact (Q_BK206 h0_ h1_)) hb))
          clear BK197
          clear BK198
          clear HB
          have BK197 := n0_
          have BK198 := n1_
          have HB := n2_
          clear n0_ n1_ n2_
          (try clear hb)
          (try clear hb2)
          (try clear hk)
          (try clear hi)
          refine hK.out _ _ ⟨gb206, m9_, (by rw [ha.out]; exact putSel_upk 3 hb_ rfl rfl rfl), (by (with_reducible repeat (first | refine blk_drewN ?_ _ | refine blk_drew ?_ | refine blk_alloc ?_ _)); exact BK197.out), (by (with_reducible repeat (first | refine blk_drewN ?_ _ | refine blk_drew ?_ | refine blk_alloc ?_ _)); exact BK198.out), (by repeat (first | (with_reducible first | exact HB.out | apply below_alloc | apply pw_below_drewN | apply below_drew1 | refine below_set ?_ GE197.out | refine below_set ?_ GE198.out) | exact HB.out)), z_BK206, Q_GW206, Q_GE206, Q_NB197_206, Q_NB206_197, Q_NB198_206, Q_NB206_198, fun h0_ => absurd ((hoff 10 (by kernel_rfl)).symm.trans h0_) (by decide), Q_X9_⟩
        refine steps_cons ?_ ?_
        · rintro b a w' ⟨gb206, m9_, ha, Q_BK197, Q_BK198, Q_HB, Q_BK206, Q_GW206, Q_GE206, Q_NB197_206, Q_NB206_197, Q_NB198_206, Q_NB206_198, Q_BK206_e10, Q_X9_⟩ hb_ hon hoff
          refine ⟨_, rfl, fun K hK => ?_⟩
          have e12 : a.tmps[12]? = some (.int .i64 a0) := by rw [ha]; exact (putSel_off rfl).trans rfl
          have e14 : a.tmps[14]? = some (.agg #[.int .i64 t199, .int .i64 t200]) := by rw [ha]; exact putSel_on (e := (2, 14, .agg #[.int .i64 t199, .int .i64 t200])) 1 rfl rfl (hon 2 (by kernel_rfl)) rfl
          have e16 : a.tmps[16]? = some (.agg #[.int .i64 t201, .int .i64 t202]) := by rw [ha]; exact putSel_on (e := (4, 16, .agg #[.int .i64 t201, .int .i64 t202])) 3 rfl rfl (hon 4 (by kernel_rfl)) rfl
          replace ha := Aside0.mk ha
          have BK197 := Aside0.mk Q_BK197
          have BK198 := Aside0.mk Q_BK198
          have HB := Aside0.mk Q_HB
          refine goes_ Try.func21 (by kernel_rfl) rfl #[.int .i64 a0, .agg #[.int .i64 t199, .int .i64 t200], .agg #[.int .i64 t201, .int .i64 t202]] (by rfl) rfl rfl (by first | (simp only [List.map_toArray, List.map_cons, List.map_nil, Act.eval, Array.getD_eq_getD_getElem?, Option.getD_some, e12, e14, e16]; done) | (simp only [List.map_toArray, List.map_cons, List.map_nil, Act.eval, Array.getD_eq_getD_getElem?, Option.getD_some, e12, e14, e16]; rfl)) ?_
          with_reducible refine (spec_DoStretch.calls k a0 t199 t200 t201 t202 t203 t204 t205 _ A6.out).mono ?_
          rintro e w19 ⟨rfl, hb⟩
          refine ⟨_, rfl, ?_⟩
          have n0_ := Aside0.mk (blk_below (g := gb197) (o := .cells #[.int .i64 a1_0, .int .i64 a1_1] 39 (0, 0)) (by (with_reducible repeat (first | refine blk_drewN ?_ _ | refine blk_drew ?_ | refine blk_alloc ?_ _)); exact BK197.out) hb)
          have n1_ := Aside0.mk (blk_below (g := gb198) (o := .cells #[.int .i64 a2_0, .int .i64 a2_1] 39 (0, 0)) (by (with_reducible repeat (first | refine blk_drewN ?_ _ | refine blk_drew ?_ | refine blk_alloc ?_ _)); exact BK198.out) hb)
          have n2_ := Aside0.mk (below_step (by repeat (first | (with_reducible first | exact HB.out | apply below_alloc | apply pw_below_drewN | apply below_drew1 | refine below_set ?_ GE197.out | refine below_set ?_ GE198.out) | exact HB.out)) hb)
          have z_BK206 := fun (h0_ : b 9 = true) (h1_ : b 10 = false) => (show w19.heap[gb206]? = some (.cells #[.int .i64 0, .int .i64 0] 40 (0, 0)) from by first | exact (blk_below (g := gb206) (o := .cells #[.int .i64 0, .int .i64 0] 40 (0, 0)) (by (with_reducible repeat (first | refine blk_drewN ?_ _ | refine blk_drew ?_ | refine blk_alloc ?_ _)); exact (Q_BK206 h0_ h1_)) hb))
          clear BK197
          clear BK198
          clear HB
          have BK197 := n0_
          have BK198 := n1_
          have HB := n2_
          clear n0_ n1_ n2_
          (try clear hb)
          (try clear hb2)
          (try clear hk)
          (try clear hi)
          refine hK.out _ _ ⟨gb206, m9_, (by rw [ha.out]; exact putSel_upk 4 hb_ rfl rfl rfl), (by (with_reducible repeat (first | refine blk_drewN ?_ _ | refine blk_drew ?_ | refine blk_alloc ?_ _)); exact BK197.out), (by (with_reducible repeat (first | refine blk_drewN ?_ _ | refine blk_drew ?_ | refine blk_alloc ?_ _)); exact BK198.out), (by repeat (first | (with_reducible first | exact HB.out | apply below_alloc | apply pw_below_drewN | apply below_drew1 | refine below_set ?_ GE197.out | refine below_set ?_ GE198.out) | exact HB.out)), z_BK206, Q_GW206, Q_GE206, Q_NB197_206, Q_NB206_197, Q_NB198_206, Q_NB206_198, fun h0_ => absurd ((hoff 10 (by kernel_rfl)).symm.trans h0_) (by decide), Q_X9_⟩
        refine steps_cons ?_ ?_
        · rintro b a w' ⟨gb206, m9_, ha, Q_BK197, Q_BK198, Q_HB, Q_BK206, Q_GW206, Q_GE206, Q_NB197_206, Q_NB206_197, Q_NB198_206, Q_NB206_198, Q_BK206_e10, Q_X9_⟩ hb_ hon hoff
          refine ⟨_, rfl, fun K hK => ?_⟩
          have e17 : a.tmps[17]? = some (.tuple #[.agg #[.int .i64 t203, .int .i64 t204], .bool t205]) := by rw [ha]; exact putSel_on (e := (5, 17, .tuple #[.agg #[.int .i64 t203, .int .i64 t204], .bool t205])) 4 rfl rfl (hon 5 (by kernel_rfl)) rfl
          replace ha := Aside0.mk ha
          have BK197 := Aside0.mk Q_BK197
          have BK198 := Aside0.mk Q_BK198
          have HB := Aside0.mk Q_HB
          refine value_ (w1 := w') (v := .tuple #[.agg #[.int .i64 t203, .int .i64 t204], .bool t205]) (by rfl) rfl ?_ ?_
          · go_simp
            (try simp only [i64_w])
            try rfl
          refine hK.out _ _ ⟨gb206, m9_, (by rw [ha.out]; exact putSel_upk 5 hb_ rfl rfl rfl), Q_BK197, Q_BK198, Q_HB, Q_BK206, Q_GW206, Q_GE206, Q_NB197_206, Q_NB206_197, Q_NB198_206, Q_NB206_198, fun h0_ => absurd ((hoff 10 (by kernel_rfl)).symm.trans h0_) (by decide), Q_X9_⟩
        refine steps_cons ?_ ?_
        · rintro b a w' ⟨gb206, m9_, ha, Q_BK197, Q_BK198, Q_HB, Q_BK206, Q_GW206, Q_GE206, Q_NB197_206, Q_NB206_197, Q_NB198_206, Q_NB206_198, Q_BK206_e10, Q_X9_⟩ hb_ hon hoff
          refine ⟨_, rfl, fun K hK => ?_⟩
          have e11 : a.tmps[11]? = some (.tuple #[.agg #[.int .i64 t203, .int .i64 t204], .bool t205]) := by rw [ha]; exact putSel_on (e := (6, 11, .tuple #[.agg #[.int .i64 t203, .int .i64 t204], .bool t205])) 5 rfl rfl (hon 6 (by kernel_rfl)) rfl
          replace ha := Aside0.mk ha
          have BK197 := Aside0.mk Q_BK197
          have BK198 := Aside0.mk Q_BK198
          have HB := Aside0.mk Q_HB
          refine value_ (w1 := w') (v := .agg #[.int .i64 t203, .int .i64 t204]) (by rfl) rfl ?_ ?_
          · go_simp
            (try simp only [i64_w])
            try rfl
          refine hK.out _ _ ⟨gb206, m9_, (by rw [ha.out]; exact putSel_upk 6 hb_ rfl rfl rfl), Q_BK197, Q_BK198, Q_HB, Q_BK206, Q_GW206, Q_GE206, Q_NB197_206, Q_NB206_197, Q_NB198_206, Q_NB206_198, fun h0_ => absurd ((hoff 10 (by kernel_rfl)).symm.trans h0_) (by decide), Q_X9_⟩
        refine steps_cons ?_ ?_
        · rintro b a w' ⟨gb206, m9_, ha, Q_BK197, Q_BK198, Q_HB, Q_BK206, Q_GW206, Q_GE206, Q_NB197_206, Q_NB206_197, Q_NB198_206, Q_NB206_198, Q_BK206_e10, Q_X9_⟩ hb_ hon hoff
          refine ⟨_, rfl, fun K hK => ?_⟩
          have e11 : a.tmps[11]? = some (.tuple #[.agg #[.int .i64 t203, .int .i64 t204], .bool t205]) := by rw [ha]; exact putSel_on (e := (6, 11, .tuple #[.agg #[.int .i64 t203, .int .i64 t204], .bool t205])) 5 rfl rfl (hon 6 (by kernel_rfl)) rfl
          replace ha := Aside0.mk ha
          have BK197 := Aside0.mk Q_BK197
          have BK198 := Aside0.mk Q_BK198
          have HB := Aside0.mk Q_HB
          refine value_ (w1 := w') (v := .bool t205) (by rfl) rfl ?_ ?_
          · go_simp
            (try simp only [i64_w])
            try rfl
          refine hK.out _ _ ⟨gb206, m9_, (by rw [ha.out]; exact putSel_upk 7 hb_ rfl rfl rfl), Q_BK197, Q_BK198, Q_HB, Q_BK206, Q_GW206, Q_GE206, Q_NB197_206, Q_NB206_197, Q_NB198_206, Q_NB206_198, Q_BK206_e10, Q_X9_⟩
        refine steps_cons ?_ ?_
        · rintro b a w' ⟨gb206, m9_, ha, Q_BK197, Q_BK198, Q_HB, Q_BK206, Q_GW206, Q_GE206, Q_NB197_206, Q_NB206_197, Q_NB198_206, Q_NB206_198, Q_BK206_e10, Q_X9_⟩ hb_ hon hoff
          refine ⟨_, rfl, fun K hK => ?_⟩
          replace ha := Aside0.mk ha
          have BK197 := Aside0.mk Q_BK197
          have BK198 := Aside0.mk Q_BK198
          have HB := Aside0.mk Q_HB
          refine box_step ?hg (N := 7) ?hd (cs := #[.int .i64 0, .int .i64 0]) (t := 40) ?hr ?_; (case hd => rfl); (case hg => rfl); (case hr => first | (go_simp; done) | (go_simp; rfl))
          intro gb206 hg w16 hbox hb
          have n0_ := Aside0.mk (blk_below (g := gb197) (o := .cells #[.int .i64 a1_0, .int .i64 a1_1] 39 (0, 0)) (by (with_reducible repeat (first | refine blk_drewN ?_ _ | refine blk_drew ?_ | refine blk_alloc ?_ _)); exact BK197.out) hb)
          have n1_ := Aside0.mk (blk_below (g := gb198) (o := .cells #[.int .i64 a2_0, .int .i64 a2_1] 39 (0, 0)) (by (with_reducible repeat (first | refine blk_drewN ?_ _ | refine blk_drew ?_ | refine blk_alloc ?_ _)); exact BK198.out) hb)
          have n2_ := Aside0.mk (below_step (by repeat (first | (with_reducible first | exact HB.out | apply below_alloc | apply pw_below_drewN | apply below_drew1 | refine below_set ?_ GE197.out | refine below_set ?_ GE198.out) | exact HB.out)) hb)
          have n3_ := Aside0.mk (hbox)
          have n4_ := Aside0.mk ((by rw [hg]; exact (below_size (by repeat (first | (with_reducible first | exact HB.out | apply below_alloc | apply pw_below_drewN | apply below_drew1 | refine below_set ?_ GE197.out | refine below_set ?_ GE198.out) | exact HB.out))) : w.heap.size ≤ gb206))
          have n5_ := Aside0.mk ((by rw [hg]; exact (below_size (by repeat (first | (with_reducible first | exact HB.out | apply below_alloc | apply pw_below_drewN | apply below_drew1 | refine below_set ?_ GE197.out | refine below_set ?_ GE198.out) | exact HB.out))) : w.heap.size ≤ gb206))
          have n6_ := Aside0.mk ((by rw [hg]; exact Nat.ne_of_lt (blk_lt (g := gb197) (o := .cells #[.int .i64 a1_0, .int .i64 a1_1] 39 (0, 0)) (by (with_reducible repeat (first | refine blk_drewN ?_ _ | refine blk_drew ?_ | refine blk_alloc ?_ _)); exact BK197.out)) : gb197 ≠ gb206))
          have n7_ := Aside0.mk ((by rw [hg]; exact Nat.ne_of_gt (blk_lt (g := gb197) (o := .cells #[.int .i64 a1_0, .int .i64 a1_1] 39 (0, 0)) (by (with_reducible repeat (first | refine blk_drewN ?_ _ | refine blk_drew ?_ | refine blk_alloc ?_ _)); exact BK197.out)) : gb206 ≠ gb197))
          have n8_ := Aside0.mk ((by rw [hg]; exact Nat.ne_of_lt (blk_lt (g := gb198) (o := .cells #[.int .i64 a2_0, .int .i64 a2_1] 39 (0, 0)) (by (with_reducible repeat (first | refine blk_drewN ?_ _ | refine blk_drew ?_ | refine blk_alloc ?_ _)); exact BK198.out)) : gb198 ≠ gb206))
          have n9_ := Aside0.mk ((by rw [hg]; exact Nat.ne_of_gt (blk_lt (g := gb198) (o := .cells #[.int .i64 a2_0, .int .i64 a2_1] 39 (0, 0)) (by (with_reducible repeat (first | refine blk_drewN ?_ _ | refine blk_drew ?_ | refine blk_alloc ?_ _)); exact BK198.out)) : gb206 ≠ gb198))
          clear BK197
          clear BK198
          clear HB
          have BK197 := n0_
          have BK198 := n1_
          have HB := n2_
          have BK206 := n3_
          have GW206 := n4_
          have GE206 := n5_
          have NB197_206 := n6_
          have NB206_197 := n7_
          have NB198_206 := n8_
          have NB206_198 := n9_
          clear n0_ n1_ n2_ n3_ n4_ n5_ n6_ n7_ n8_ n9_
          clear hb hbox hg
          refine hK.out _ _ ⟨gb206, (.pointer (some ⟨gb206, 0, none⟩)), (by rw [ha.out]; exact putSel_upk 8 hb_ rfl rfl rfl), (by (with_reducible repeat (first | refine blk_drewN ?_ _ | refine blk_drew ?_ | refine blk_alloc ?_ _)); exact BK197.out), (by (with_reducible repeat (first | refine blk_drewN ?_ _ | refine blk_drew ?_ | refine blk_alloc ?_ _)); exact BK198.out), (by repeat (first | (with_reducible first | exact HB.out | apply below_alloc | apply pw_below_drewN | apply below_drew1 | refine below_set ?_ GE197.out | refine below_set ?_ GE198.out | refine below_set ?_ GE206.out) | exact HB.out)), fun _ _ => (by (with_reducible repeat (first | refine blk_drewN ?_ _ | refine blk_drew ?_ | refine blk_alloc ?_ _)); exact BK206.out), fun _ => GW206.out, fun _ => GE206.out, fun _ => NB197_206.out, fun _ => NB206_197.out, fun _ => NB198_206.out, fun _ => NB206_198.out, fun h0_ => absurd ((hoff 10 (by kernel_rfl)).symm.trans h0_) (by decide), fun _ => rfl⟩
        refine steps_cons ?_ ?_
        · rintro b a w' ⟨gb206, m9_, ha, Q_BK197, Q_BK198, Q_HB, Q_BK206, Q_GW206, Q_GE206, Q_NB197_206, Q_NB206_197, Q_NB198_206, Q_NB206_198, Q_BK206_e10, Q_X9_⟩ hb_ hon hoff
          refine ⟨_, rfl, fun K hK => ?_⟩
          have e7 : a.tmps[7]? = some (m9_) := by rw [ha]; exact putSel_on (e := (9, 7, m9_)) 8 rfl rfl (hon 9 (by kernel_rfl)) rfl
          rw [Q_X9_ (hon 9 (by kernel_rfl))] at e7
          have e18 : a.tmps[18]? = some (.agg #[.int .i64 t203, .int .i64 t204]) := by rw [ha]; exact putSel_on (e := (7, 18, .agg #[.int .i64 t203, .int .i64 t204])) 6 rfl rfl (hon 7 (by kernel_rfl)) rfl
          replace ha := Aside0.mk ha
          have BK197 := Aside0.mk Q_BK197
          have BK198 := Aside0.mk Q_BK198
          have HB := Aside0.mk Q_HB
          have BK206 := Aside0.mk (Q_BK206 (hon 9 (by kernel_rfl)) hb_)
          have GW206 := Aside0.mk (Q_GW206 (hon 9 (by kernel_rfl)))
          have GE206 := Aside0.mk (Q_GE206 (hon 9 (by kernel_rfl)))
          have NB197_206 := Aside0.mk (Q_NB197_206 (hon 9 (by kernel_rfl)))
          have NB206_197 := Aside0.mk (Q_NB206_197 (hon 9 (by kernel_rfl)))
          have NB198_206 := Aside0.mk (Q_NB198_206 (hon 9 (by kernel_rfl)))
          have NB206_198 := Aside0.mk (Q_NB206_198 (hon 9 (by kernel_rfl)))
          have hs21 : w'.cell? ⟨gb206, 0, none⟩ = some (.int .i64 0) := (blk_cell BK206.out 0).trans rfl
          have hfs21 := blk_frozen BK206.out 0
          have hns21_0 := NB197_206.out
          have hns21_1 := NB198_206.out
          have hms21_0 := NB206_197.out
          have hms21_1 := NB206_198.out
          have hs22 : w'.cell? ⟨gb206, 1, none⟩ = some (.int .i64 0) := (blk_cell BK206.out 1).trans rfl
          have hfs22 := blk_frozen BK206.out 1
          have hns22_0 := NB197_206.out
          have hns22_1 := NB198_206.out
          have hms22_0 := NB206_197.out
          have hms22_1 := NB206_198.out
          refine skip_ (w1 := ?_) (by rfl) rfl ?_ ?_
          rotate_left
          · go_simp
            rfl
          refine hK.out _ _ ⟨gb206, m9_, (by rw [ha.out]; exact putSel_none (v := undef) rfl), (by (with_reducible repeat (first | refine blk_drewN ?_ _ | refine blk_drew ?_ | refine blk_alloc ?_ _)); refine blk_far ?_ NB197_206.out _; (with_reducible repeat (first | refine blk_drewN ?_ _ | refine blk_drew ?_ | refine blk_alloc ?_ _)); refine blk_far ?_ NB197_206.out _; (with_reducible repeat (first | refine blk_drewN ?_ _ | refine blk_drew ?_ | refine blk_alloc ?_ _)); exact BK197.out), (by (with_reducible repeat (first | refine blk_drewN ?_ _ | refine blk_drew ?_ | refine blk_alloc ?_ _)); refine blk_far ?_ NB198_206.out _; (with_reducible repeat (first | refine blk_drewN ?_ _ | refine blk_drew ?_ | refine blk_alloc ?_ _)); refine blk_far ?_ NB198_206.out _; (with_reducible repeat (first | refine blk_drewN ?_ _ | refine blk_drew ?_ | refine blk_alloc ?_ _)); exact BK198.out), (by repeat (first | (with_reducible first | exact HB.out | apply below_alloc | apply pw_below_drewN | apply below_drew1 | refine below_set ?_ GE197.out | refine below_set ?_ GE198.out | refine below_set ?_ GE206.out) | exact HB.out)), fun _ h1_ => absurd ((up_self b 10).symm.trans h1_) (by decide), fun _ => GW206.out, fun _ => GE206.out, fun _ => NB197_206.out, fun _ => NB206_197.out, fun _ => NB198_206.out, fun _ => NB206_198.out, fun _ => (by (with_reducible repeat (first | refine blk_drewN ?_ _ | refine blk_drew ?_ | refine blk_alloc ?_ _)); refine blk_put (cs := #[.int .i64 t203, .int .i64 0]) ?_ 1 _ rfl; (with_reducible repeat (first | refine blk_drewN ?_ _ | refine blk_drew ?_ | refine blk_alloc ?_ _)); refine blk_put (cs := #[.int .i64 0, .int .i64 0]) ?_ 0 _ rfl; (with_reducible repeat (first | refine blk_drewN ?_ _ | refine blk_drew ?_ | refine blk_alloc ?_ _)); exact BK206.out), Q_X9_⟩
        refine steps_cons ?_ ?_
        · rintro b a w' ⟨gb206, m9_, ha, Q_BK197, Q_BK198, Q_HB, Q_BK206, Q_GW206, Q_GE206, Q_NB197_206, Q_NB206_197, Q_NB198_206, Q_NB206_198, Q_BK206_e10, Q_X9_⟩ hb_ hon hoff
          refine ⟨_, rfl, fun K hK => ?_⟩
          have e19 : a.tmps[19]? = some (.bool t205) := by rw [ha]; exact putSel_on (e := (8, 19, .bool t205)) 7 rfl rfl (hon 8 (by kernel_rfl)) rfl
          replace ha := Aside0.mk ha
          have BK197 := Aside0.mk Q_BK197
          have BK198 := Aside0.mk Q_BK198
          have HB := Aside0.mk Q_HB
          have GW206 := Aside0.mk (Q_GW206 (hon 9 (by kernel_rfl)))
          have GE206 := Aside0.mk (Q_GE206 (hon 9 (by kernel_rfl)))
          have NB197_206 := Aside0.mk (Q_NB197_206 (hon 9 (by kernel_rfl)))
          have NB206_197 := Aside0.mk (Q_NB206_197 (hon 9 (by kernel_rfl)))
          have NB198_206 := Aside0.mk (Q_NB198_206 (hon 9 (by kernel_rfl)))
          have NB206_198 := Aside0.mk (Q_NB206_198 (hon 9 (by kernel_rfl)))
          have BK206 := Aside0.mk (Q_BK206_e10 (hon 10 (by kernel_rfl)))
          refine value_ (w1 := w') (v := .bool t205) (by rfl) rfl ?_ ?_
          · go_simp
            (try simp only [i64_w])
            try rfl
          refine hK.out _ _ ⟨gb206, m9_, (by rw [ha.out]; exact putSel_upk 9 hb_ rfl rfl rfl), Q_BK197, Q_BK198, Q_HB, fun _ h1_ => absurd ((hon 10 (by kernel_rfl)).symm.trans h1_) (by decide), Q_GW206, Q_GE206, Q_NB197_206, Q_NB206_197, Q_NB198_206, Q_NB206_198, Q_BK206_e10, Q_X9_⟩
        exact steps_nil
      rintro b a w22 hall ⟨gb206, m9_, ha, Q_BK197, Q_BK198, Q_HB, Q_BK206, Q_GW206, Q_GE206, Q_NB197_206, Q_NB206_197, Q_NB198_206, Q_NB206_198, Q_BK206_e10, Q_X9_⟩
      clear BK197 BK198 HB
      have hb1_ := hall 1 (by kernel_rfl)
      have hb2_ := hall 2 (by kernel_rfl)
      have hb3_ := hall 3 (by kernel_rfl)
      have hb4_ := hall 4 (by kernel_rfl)
      have hb5_ := hall 5 (by kernel_rfl)
      have hb6_ := hall 6 (by kernel_rfl)
      have hb7_ := hall 7 (by kernel_rfl)
      have hb8_ := hall 8 (by kernel_rfl)
      have hb9_ := hall 9 (by kernel_rfl)
      have hb10_ := hall 10 (by kernel_rfl)
      have hb11_ := hall 11 (by kernel_rfl)
      subst ha
      obtain rfl := Q_X9_ hb9_
      simp only [putSel, hb1_, hb2_, hb3_, hb4_, hb5_, hb6_, hb7_, hb8_, hb9_, hb10_, hb11_, if_true, Act.put, List.setIfInBounds_toArray, List.set_cons_zero, List.set_cons_succ]
      have BK197 := Aside0.mk Q_BK197
      clear Q_BK197
      have BK198 := Aside0.mk Q_BK198
      clear Q_BK198
      have HB := Aside0.mk Q_HB
      clear Q_HB
      clear Q_BK206
      have GW206 := Aside0.mk (Q_GW206 hb9_)
      clear Q_GW206
      have GE206 := Aside0.mk (Q_GE206 hb9_)
      clear Q_GE206
      have NB197_206 := Aside0.mk (Q_NB197_206 hb9_)
      clear Q_NB197_206
      have NB206_197 := Aside0.mk (Q_NB206_197 hb9_)
      clear Q_NB206_197
      have NB198_206 := Aside0.mk (Q_NB198_206 hb9_)
      clear Q_NB198_206
      have NB206_198 := Aside0.mk (Q_NB206_198 hb9_)
      clear Q_NB206_198
      have BK206 := Aside0.mk (Q_BK206_e10 hb10_)
      clear Q_BK206_e10
      clear hall hb1_ hb2_ hb3_ hb4_ hb5_ hb6_ hb7_ hb8_ hb9_ hb10_ hb11_
      try go_wp2
      have n0_ := Aside0.mk (blk_drew BK197.out)
      have n1_ := Aside0.mk (blk_drew BK198.out)
      have n2_ := Aside0.mk (blk_drew BK206.out)
      have n3_ := Aside0.mk (below_drew1 HB.out)
      clear BK197
      clear BK198
      clear BK206
      clear HB
      have BK197 := n0_
      have BK198 := n1_
      have BK206 := n2_
      have HB := n3_
      clear n0_ n1_ n2_ n3_
      refine start_ (n := 12) (S := fun w' => True) (ds := []) #[false, false, false, false, false, false, false, false, false, false, false, false] (by kernel_rfl) rfl rfl trivial (fun hHeld => ?_); refine with_tabW laws_FnExactDoStretch.tab2 laws_FnExactDoStretch.bits2 (fun HT_ HW_ => ?_)
      generalize w22.drew = w23 at BK197 BK198 BK206 HB hHeld ⊢
      refine pure_ (i := 0) (N := some 21) (v := ?_) (a' := ?_) #[true, false, false, false, false, false, false, false, false, false, false, false] rfl rfl (any_of HT_.out (by kernel_rfl)) (fun _ _ _ h => h) (Or.inl ⟨by rfl, ?_⟩) ?_ ?_
      rotate_left
      · intro w'
        go_simp
        with_reducible rfl
      rotate_left
      · simp only [Act.put, List.setIfInBounds_toArray, List.set_cons_zero, List.set_cons_succ, i64_w, i32_w]
        rfl
      refine inv_at [1, 2, 3, 4, 5, 6, 7, 8, 9, 10, 11] (fun a0_ b a w' => ∃ (gb214 : Nat) (m9_ : Value), a = putSel a0_ b [(1, 22, .agg #[.int .i64 a1_0, .int .i64 a1_1]), (2, 23, .agg #[.int .i64 t207, .int .i64 t208]), (3, 24, .agg #[.int .i64 a2_0, .int .i64 a2_1]), (4, 25, .agg #[.int .i64 t209, .int .i64 t210]), (5, 26, .tuple #[.agg #[.int .i64 t211, .int .i64 t212], .bool t213]), (6, 20, .tuple #[.agg #[.int .i64 t211, .int .i64 t212], .bool t213]), (7, 27, .agg #[.int .i64 t211, .int .i64 t212]), (8, 28, .bool t213), (9, 9, m9_), (11, 10, .bool t213)] ∧ (w'.heap[gb197]? = some (.cells #[.int .i64 a1_0, .int .i64 a1_1] 39 (0, 0))) ∧ (w'.heap[gb198]? = some (.cells #[.int .i64 a2_0, .int .i64 a2_1] 39 (0, 0))) ∧ (w'.heap[gb206]? = some (.cells #[.int .i64 t203, .int .i64 t204] 40 (0, 0))) ∧ (Below w.heap.size w w') ∧ (b 9 = true → b 10 = false → w'.heap[gb214]? = some (.cells #[.int .i64 0, .int .i64 0] 40 (0, 0))) ∧ (b 9 = true → w.heap.size ≤ gb214) ∧ (b 9 = true → w.heap.size ≤ gb214) ∧ (b 9 = true → gb197 ≠ gb214) ∧ (b 9 = true → gb214 ≠ gb197) ∧ (b 9 = true → gb198 ≠ gb214) ∧ (b 9 = true → gb214 ≠ gb198) ∧ (b 9 = true → gb206 ≠ gb214) ∧ (b 9 = true → gb214 ≠ gb206) ∧ (b 10 = true → w'.heap[gb214]? = some (.cells #[.int .i64 t211, .int .i64 t212] 40 (0, 0))) ∧ (b 9 = true → (m9_ : Value) = .pointer (some ⟨gb214, 0, none⟩))) HT_.out HW_.out (by kernel_rfl) (by kernel_rfl) ?_ ?_ ?_
      · exact ⟨0, .bool false, by simp only [putSel, Bool.false_eq_true, if_false], BK197.out, BK198.out, BK206.out, HB.out, fun h_ => absurd h_ (by decide), fun h_ => absurd h_ (by decide), fun h_ => absurd h_ (by decide), fun h_ => absurd h_ (by decide), fun h_ => absurd h_ (by decide), fun h_ => absurd h_ (by decide), fun h_ => absurd h_ (by decide), fun h_ => absurd h_ (by decide), fun h_ => absurd h_ (by decide), fun h_ => absurd h_ (by decide), fun h_ => absurd h_ (by decide)⟩
      · skip
        clear BK197 BK198 BK206 HB
        refine steps_cons ?_ ?_
        · rintro b a w' ⟨gb214, m9_, ha, Q_BK197, Q_BK198, Q_BK206, Q_HB, Q_BK214, Q_GW214, Q_GE214, Q_NB197_214, Q_NB214_197, Q_NB198_214, Q_NB214_198, Q_NB206_214, Q_NB214_206, Q_BK214_e10, Q_X9_⟩ hb_ hon hoff
          refine ⟨_, rfl, fun K hK => ?_⟩
          have e4 : a.tmps[4]? = some (.pointer (some ⟨gb197, 0, none⟩)) := by rw [ha]; exact (putSel_off rfl).trans rfl
          replace ha := Aside0.mk ha
          have BK197 := Aside0.mk Q_BK197
          have BK198 := Aside0.mk Q_BK198
          have BK206 := Aside0.mk Q_BK206
          have HB := Aside0.mk Q_HB
          have hc0_ : w'.cell? ⟨gb197, 0, none⟩ = some (.int .i64 a1_0) := (blk_cell BK197.out 0).trans rfl
          have hc1_ : w'.cell? ⟨gb197, 1, none⟩ = some (.int .i64 a1_1) := (blk_cell BK197.out 1).trans rfl
          refine value_ (w1 := w') (v := .agg #[.int .i64 a1_0, .int .i64 a1_1]) (by rfl) rfl ?_ ?_
          · go_simp
            (try simp only [i64_w])
            try rfl
          refine hK.out _ _ ⟨gb214, m9_, (by rw [ha.out]; exact putSel_upk 0 hb_ rfl rfl rfl), Q_BK197, Q_BK198, Q_BK206, Q_HB, Q_BK214, Q_GW214, Q_GE214, Q_NB197_214, Q_NB214_197, Q_NB198_214, Q_NB214_198, Q_NB206_214, Q_NB214_206, fun h0_ => absurd ((hoff 10 (by kernel_rfl)).symm.trans h0_) (by decide), Q_X9_⟩
        refine steps_cons ?_ ?_
        · rintro b a w' ⟨gb214, m9_, ha, Q_BK197, Q_BK198, Q_BK206, Q_HB, Q_BK214, Q_GW214, Q_GE214, Q_NB197_214, Q_NB214_197, Q_NB198_214, Q_NB214_198, Q_NB206_214, Q_NB214_206, Q_BK214_e10, Q_X9_⟩ hb_ hon hoff
          refine ⟨_, rfl, fun K hK => ?_⟩
          have e22 : a.tmps[22]? = some (.agg #[.int .i64 a1_0, .int .i64 a1_1]) := by rw [ha]; exact putSel_on (e := (1, 22, .agg #[.int .i64 a1_0, .int .i64 a1_1])) 0 rfl rfl (hon 1 (by kernel_rfl)) rfl
          replace ha := Aside0.mk ha
          have BK197 := Aside0.mk Q_BK197
          have BK198 := Aside0.mk Q_BK198
          have BK206 := Aside0.mk Q_BK206
          have HB := Aside0.mk Q_HB
          refine goes_ Try.func22 (by kernel_rfl) rfl #[.agg #[.int .i64 a1_0, .int .i64 a1_1]] (by rfl) rfl rfl (by first | (simp only [List.map_toArray, List.map_cons, List.map_nil, Act.eval, Array.getD_eq_getD_getElem?, Option.getD_some, e22]; done) | (simp only [List.map_toArray, List.map_cons, List.map_nil, Act.eval, Array.getD_eq_getD_getElem?, Option.getD_some, e22]; rfl)) ?_
          with_reducible refine (laws_toStretch.calls a1_0 a1_1 t207 t208 _ A7.out).mono ?_
          rintro e w24 ⟨rfl, hb⟩
          refine ⟨_, rfl, ?_⟩
          have n0_ := Aside0.mk (blk_below (g := gb197) (o := .cells #[.int .i64 a1_0, .int .i64 a1_1] 39 (0, 0)) (by (with_reducible repeat (first | refine blk_drewN ?_ _ | refine blk_drew ?_ | refine blk_alloc ?_ _)); exact BK197.out) hb)
          have n1_ := Aside0.mk (blk_below (g := gb198) (o := .cells #[.int .i64 a2_0, .int .i64 a2_1] 39 (0, 0)) (by (with_reducible repeat (first | refine blk_drewN ?_ _ | refine blk_drew ?_ | refine blk_alloc ?_ _)); exact BK198.out) hb)
          have n2_ := Aside0.mk (blk_below (g := gb206) (o := .cells #[.int .i64 t203, .int .i64 t204] 40 (0, 0)) (by (with_reducible repeat (first | refine blk_drewN ?_ _ | refine blk_drew ?_ | refine blk_alloc ?_ _)); exact BK206.out) hb)
          have n3_ := Aside0.mk (below_step (by repeat (first | (with_reducible first | exact HB.out | apply below_alloc | apply pw_below_drewN | apply below_drew1 | refine below_set ?_ GE197.out | refine below_set ?_ GE198.out | refine below_set ?_ GE206.out) | exact HB.out)) hb)
          have z_BK214 := fun (h0_ : b 9 = true) (h1_ : b 10 = false) => (show w24.heap[gb214]? = some (.cells #[.int .i64 0, .int .i64 0] 40 (0, 0)) from by first | exact (blk_below (g := gb214) (o := .cells #[.int .i64 0, .int .i64 0] 40 (0, 0)) (by (with_reducible repeat (first | refine blk_drewN ?_ _ | refine blk_drew ?_ | refine blk_alloc ?_ _)); exact (Q_BK214 h0_ h1_)) hb))
          clear BK197
          clear BK198
          clear BK206
          clear HB
          have BK197 := n0_
          have BK198 := n1_
          have BK206 := n2_
          have HB := n3_
          clear n0_ n1_ n2_ n3_
          (try clear hb)
          (try clear hb2)
          (try clear hk)
          (try clear hi)
          refine hK.out _ _ ⟨gb214, m9_, (by rw [ha.out]; exact putSel_upk 1 hb_ rfl rfl rfl), (by (with_reducible repeat (first | refine blk_drewN ?_ _ | refine blk_drew ?_ | refine blk_alloc ?_ _)); exact BK197.out), (by (with_reducible repeat (first | refine blk_drewN ?_ _ | refine blk_drew ?_ | refine blk_alloc ?_ _)); exact BK198.out), (by (with_reducible repeat (first | refine blk_drewN ?_ _ | refine blk_drew ?_ | refine blk_alloc ?_ _)); exact BK206.out), (by repeat (first | (with_reducible first | exact HB.out | apply below_alloc | apply pw_below_drewN | apply below_drew1 | refine below_set ?_ GE197.out | refine below_set ?_ GE198.out | refine below_set ?_ GE206.out) | exact HB.out)), z_BK214, Q_GW214, Q_GE214, Q_NB197_214, Q_NB214_197, Q_NB198_214, Q_NB214_198, Q_NB206_214, Q_NB214_206, fun h0_ => absurd ((hoff 10 (by kernel_rfl)).symm.trans h0_) (by decide), Q_X9_⟩
        refine steps_cons ?_ ?_
        · rintro b a w' ⟨gb214, m9_, ha, Q_BK197, Q_BK198, Q_BK206, Q_HB, Q_BK214, Q_GW214, Q_GE214, Q_NB197_214, Q_NB214_197, Q_NB198_214, Q_NB214_198, Q_NB206_214, Q_NB214_206, Q_BK214_e10, Q_X9_⟩ hb_ hon hoff
          refine ⟨_, rfl, fun K hK => ?_⟩
          have e5 : a.tmps[5]? = some (.pointer (some ⟨gb198, 0, none⟩)) := by rw [ha]; exact (putSel_off rfl).trans rfl
          replace ha := Aside0.mk ha
          have BK197 := Aside0.mk Q_BK197
          have BK198 := Aside0.mk Q_BK198
          have BK206 := Aside0.mk Q_BK206
          have HB := Aside0.mk Q_HB
          have hc0_ : w'.cell? ⟨gb198, 0, none⟩ = some (.int .i64 a2_0) := (blk_cell BK198.out 0).trans rfl
          have hc1_ : w'.cell? ⟨gb198, 1, none⟩ = some (.int .i64 a2_1) := (blk_cell BK198.out 1).trans rfl
          refine value_ (w1 := w') (v := .agg #[.int .i64 a2_0, .int .i64 a2_1]) (by rfl) rfl ?_ ?_
          · go_simp
            (try simp only [i64_w])
            try rfl
          refine hK.out _ _ ⟨gb214, m9_, (by rw [ha.out]; exact putSel_upk 2 hb_ rfl rfl rfl), Q_BK197, Q_BK198, Q_BK206, Q_HB, Q_BK214, Q_GW214, Q_GE214, Q_NB197_214, Q_NB214_197, Q_NB198_214, Q_NB214_198, Q_NB206_214, Q_NB214_206, fun h0_ => absurd ((hoff 10 (by kernel_rfl)).symm.trans h0_) (by decide), Q_X9_⟩
        refine steps_cons ?_ ?_
        · rintro b a w' ⟨gb214, m9_, ha, Q_BK197, Q_BK198, Q_BK206, Q_HB, Q_BK214, Q_GW214, Q_GE214, Q_NB197_214, Q_NB214_197, Q_NB198_214, Q_NB214_198, Q_NB206_214, Q_NB214_206, Q_BK214_e10, Q_X9_⟩ hb_ hon hoff
          refine ⟨_, rfl, fun K hK => ?_⟩
          have e24 : a.tmps[24]? = some (.agg #[.int .i64 a2_0, .int .i64 a2_1]) := by rw [ha]; exact putSel_on (e := (3, 24, .agg #[.int .i64 a2_0, .int .i64 a2_1])) 2 rfl rfl (hon 3 (by kernel_rfl)) rfl
          replace ha := Aside0.mk ha
          have BK197 := Aside0.mk Q_BK197
          have BK198 := Aside0.mk Q_BK198
          have BK206 := Aside0.mk Q_BK206
          have HB := Aside0.mk Q_HB
          refine goes_ Try.func22 (by kernel_rfl) rfl #[.agg #[.int .i64 a2_0, .int .i64 a2_1]] (by rfl) rfl rfl (by first | (simp only [List.map_toArray, List.map_cons, List.map_nil, Act.eval, Array.getD_eq_getD_getElem?, Option.getD_some, e24]; done) | (simp only [List.map_toArray, List.map_cons, List.map_nil, Act.eval, Array.getD_eq_getD_getElem?, Option.getD_some, e24]; rfl)) ?_
          with_reducible refine (laws_toStretch.calls a2_0 a2_1 t209 t210 _ A8.out).mono ?_
          rintro e w26 ⟨rfl, hb⟩
          refine ⟨_, rfl, ?_⟩
          have n0_ := Aside0.mk (blk_below (g := gb197) (o := .cells #[.int .i64 a1_0, .int .i64 a1_1] 39 (0, 0)) (by (with_reducible repeat (first | refine blk_drewN ?_ _ | refine blk_drew ?_ | refine blk_alloc ?_ _)); exact BK197.out) hb)
          have n1_ := Aside0.mk (blk_below (g := gb198) (o := .cells #[.int .i64 a2_0, .int .i64 a2_1] 39 (0, 0)) (by (with_reducible repeat (first | refine blk_drewN ?_ _ | refine blk_drew ?_ | refine blk_alloc ?_ _)); exact BK198.out) hb)
          have n2_ := Aside0.mk (blk_below (g := gb206) (o := .cells #[.int .i64 t203, .int .i64 t204] 40 (0, 0)) (by (with_reducible repeat (first | refine blk_drewN ?_ _ | refine blk_drew ?_ | refine blk_alloc ?_ _)); exact BK206.out) hb)
          have n3_ := Aside0.mk (below_step (by repeat (first | (with_reducible first | exact HB.out | apply below_alloc | apply pw_below_drewN | apply below_drew1 | refine below_set ?_ GE197.out | refine below_set ?_ GE198.out | refine below_set ?_ GE206.out) | exact HB.out)) hb)
          have z_BK214 := fun (h0_ : b 9 = true) (h1_ : b 10 = false) => (show w26.heap[gb214]? = some (.cells #[.int .i64 0, .int .i64 0] 40 (0, 0)) from by first | exact (blk_below (g := gb214) (o := .cells #[.int .i64 0, .int .i64 0] 40 (0, 0)) (by (with_reducible repeat (first | refine blk_drewN ?_ _ | refine blk_drew ?_ | refine blk_alloc ?_ _)); exact (Q_BK214 h0_ h1_)) hb))
          clear BK197
          clear BK198
          clear BK206
          clear HB
          have BK197 := n0_
          have BK198 := n1_
          have BK206 := n2_
          have HB := n3_
          clear n0_ n1_ n2_ n3_
          (try clear hb)
          (try clear hb2)
          (try clear hk)
          (try clear hi)
          refine hK.out _ _ ⟨gb214, m9_, (by rw [ha.out]; exact putSel_upk 3 hb_ rfl rfl rfl), (by (with_reducible repeat (first | refine blk_drewN ?_ _ | refine blk_drew ?_ | refine blk_alloc ?_ _)); exact BK197.out), (by (with_reducible repeat (first | refine blk_drewN ?_ _ | refine blk_drew ?_ | refine blk_alloc ?_ _)); exact BK198.out), (by (with_reducible repeat (first | refine blk_drewN ?_ _ | refine blk_drew ?_ | refine blk_alloc ?_ _)); exact BK206.out), (by repeat (first | (with_reducible first | exact HB.out | apply below_alloc | apply pw_below_drewN | apply below_drew1 | refine below_set ?_ GE197.out | refine below_set ?_ GE198.out | refine below_set ?_ GE206.out) | exact HB.out)), z_BK214, Q_GW214, Q_GE214, Q_NB197_214, Q_NB214_197, Q_NB198_214, Q_NB214_198, Q_NB206_214, Q_NB214_206, fun h0_ => absurd ((hoff 10 (by kernel_rfl)).symm.trans h0_) (by decide), Q_X9_⟩
        refine steps_cons ?_ ?_
        · rintro b a w' ⟨gb214, m9_, ha, Q_BK197, Q_BK198, Q_BK206, Q_HB, Q_BK214, Q_GW214, Q_GE214, Q_NB197_214, Q_NB214_197, Q_NB198_214, Q_NB214_198, Q_NB206_214, Q_NB214_206, Q_BK214_e10, Q_X9_⟩ hb_ hon hoff
          refine ⟨_, rfl, fun K hK => ?_⟩
          have e21 : a.tmps[21]? = some (.int .i64 a0) := by rw [ha]; exact (putSel_off rfl).trans rfl
          have e23 : a.tmps[23]? = some (.agg #[.int .i64 t207, .int .i64 t208]) := by rw [ha]; exact putSel_on (e := (2, 23, .agg #[.int .i64 t207, .int .i64 t208])) 1 rfl rfl (hon 2 (by kernel_rfl)) rfl
          have e25 : a.tmps[25]? = some (.agg #[.int .i64 t209, .int .i64 t210]) := by rw [ha]; exact putSel_on (e := (4, 25, .agg #[.int .i64 t209, .int .i64 t210])) 3 rfl rfl (hon 4 (by kernel_rfl)) rfl
          replace ha := Aside0.mk ha
          have BK197 := Aside0.mk Q_BK197
          have BK198 := Aside0.mk Q_BK198
          have BK206 := Aside0.mk Q_BK206
          have HB := Aside0.mk Q_HB
          refine goes_ Try.func23 (by kernel_rfl) rfl #[.int .i64 a0, .agg #[.int .i64 t207, .int .i64 t208], .agg #[.int .i64 t209, .int .i64 t210]] (by rfl) rfl rfl (by first | (simp only [List.map_toArray, List.map_cons, List.map_nil, Act.eval, Array.getD_eq_getD_getElem?, Option.getD_some, e21, e23, e25]; done) | (simp only [List.map_toArray, List.map_cons, List.map_nil, Act.eval, Array.getD_eq_getD_getElem?, Option.getD_some, e21, e23, e25]; rfl)) ?_
          with_reducible refine (impl_DoStretch.calls k a0 t207 t208 t209 t210 t211 t212 t213 _ A9.out).mono ?_
          rintro e w27 ⟨rfl, hb⟩
          refine ⟨_, rfl, ?_⟩
          have n0_ := Aside0.mk (blk_below (g := gb197) (o := .cells #[.int .i64 a1_0, .int .i64 a1_1] 39 (0, 0)) (by (with_reducible repeat (first | refine blk_drewN ?_ _ | refine blk_drew ?_ | refine blk_alloc ?_ _)); exact BK197.out) hb)
          have n1_ := Aside0.mk (blk_below (g := gb198) (o := .cells #[.int .i64 a2_0, .int .i64 a2_1] 39 (0, 0)) (by (with_reducible repeat (first | refine blk_drewN ?_ _ | refine blk_drew ?_ | refine blk_alloc ?_ _)); exact BK198.out) hb)
          have n2_ := Aside0.mk (blk_below (g := gb206) (o := .cells #[.int .i64 t203, .int .i64 t204] 40 (0, 0)) (by (with_reducible repeat (first | refine blk_drewN ?_ _ | refine blk_drew ?_ | refine blk_alloc ?_ _)); exact BK206.out) hb)
          have n3_ := Aside0.mk (below_step (by repeat (first | (with_reducible first | exact HB.out | apply below_alloc | apply pw_below_drewN | apply below_drew1 | refine below_set ?_ GE197.out | refine below_set ?_ GE198.out | refine below_set ?_ GE206.out) | exact HB.out)) hb)
          have z_BK214 := fun (h0_ : b 9 = true) (h1_ : b 10 = false) => (show w27.heap[gb214]? = some (.cells #[.int .i64 0, .int .i64 0] 40 (0, 0)) from by first | exact (blk_below (g := gb214) (o := .cells #[.int .i64 0, .int .i64 0] 40 (0, 0)) (by (with_reducible repeat (first | refine blk_drewN ?_ _ | refine blk_drew ?_ | refine blk_alloc ?_ _)); exact (Q_BK214 h0_ h1_)) hb))
          clear BK197
          clear BK198
          clear BK206
          clear HB
          have BK197 := n0_
          have BK198 := n1_
          have BK206 := n2_
          have HB := n3_
          clear n0_ n1_ n2_ n3_
          (try clear hb)
          (try clear hb2)
          (try clear hk)
          (try clear hi)
          refine hK.out _ _ ⟨gb214, m9_, (by rw [ha.out]; exact putSel_upk 4 hb_ rfl rfl rfl), (by (with_reducible repeat (first | refine blk_drewN ?_ _ | refine blk_drew ?_ | refine blk_alloc ?_ _)); exact BK197.out), (by (with_reducible repeat (first | refine blk_drewN ?_ _ | refine blk_drew ?_ | refine blk_alloc ?_ _)); exact BK198.out), (by (with_reducible repeat (first | refine blk_drewN ?_ _ | refine blk_drew ?_ | refine blk_alloc ?_ _)); exact BK206.out), (by repeat (first | (with_reducible first | exact HB.out | apply below_alloc | apply pw_below_drewN | apply below_drew1 | refine below_set ?_ GE197.out | refine below_set ?_ GE198.out | refine below_set ?_ GE206.out) | exact HB.out)), z_BK214, Q_GW214, Q_GE214, Q_NB197_214, Q_NB214_197, Q_NB198_214, Q_NB214_198, Q_NB206_214, Q_NB214_206, fun h0_ => absurd ((hoff 10 (by kernel_rfl)).symm.trans h0_) (by decide), Q_X9_⟩
        refine steps_cons ?_ ?_
        · rintro b a w' ⟨gb214, m9_, ha, Q_BK197, Q_BK198, Q_BK206, Q_HB, Q_BK214, Q_GW214, Q_GE214, Q_NB197_214, Q_NB214_197, Q_NB198_214, Q_NB214_198, Q_NB206_214, Q_NB214_206, Q_BK214_e10, Q_X9_⟩ hb_ hon hoff
          refine ⟨_, rfl, fun K hK => ?_⟩
          have e26 : a.tmps[26]? = some (.tuple #[.agg #[.int .i64 t211, .int .i64 t212], .bool t213]) := by rw [ha]; exact putSel_on (e := (5, 26, .tuple #[.agg #[.int .i64 t211, .int .i64 t212], .bool t213])) 4 rfl rfl (hon 5 (by kernel_rfl)) rfl
          replace ha := Aside0.mk ha
          have BK197 := Aside0.mk Q_BK197
          have BK198 := Aside0.mk Q_BK198
          have BK206 := Aside0.mk Q_BK206
          have HB := Aside0.mk Q_HB
          refine value_ (w1 := w') (v := .tuple #[.agg #[.int .i64 t211, .int .i64 t212], .bool t213]) (by rfl) rfl ?_ ?_
          · go_simp
            (try simp only [i64_w])
            try rfl
          refine hK.out _ _ ⟨gb214, m9_, (by rw [ha.out]; exact putSel_upk 5 hb_ rfl rfl rfl), Q_BK197, Q_BK198, Q_BK206, Q_HB, Q_BK214, Q_GW214, Q_GE214, Q_NB197_214, Q_NB214_197, Q_NB198_214, Q_NB214_198, Q_NB206_214, Q_NB214_206, fun h0_ => absurd ((hoff 10 (by kernel_rfl)).symm.trans h0_) (by decide), Q_X9_⟩
        refine steps_cons ?_ ?_
        · rintro b a w' ⟨gb214, m9_, ha, Q_BK197, Q_BK198, Q_BK206, Q_HB, Q_BK214, Q_GW214, Q_GE214, Q_NB197_214, Q_NB214_197, Q_NB198_214, Q_NB214_198, Q_NB206_214, Q_NB214_206, Q_BK214_e10, Q_X9_⟩ hb_ hon hoff
          refine ⟨_, rfl, fun K hK => ?_⟩
          have e20 : a.tmps[20]? = some (.tuple #[.agg #[.int .i64 t211, .int .i64 t212], .bool t213]) := by rw [ha]; exact putSel_on (e := (6, 20, .tuple #[.agg #[.int .i64 t211, .int .i64 t212], .bool t213])) 5 rfl rfl (hon 6 (by kernel_rfl)) rfl
          replace ha := Aside0.mk ha
          have BK197 := Aside0.mk Q_BK197
          have BK198 := Aside0.mk Q_BK198
          have BK206 := Aside0.mk Q_BK206
          have HB := Aside0.mk Q_HB
          refine value_ (w1 := w') (v := .agg #[.int .i64 t211, .int .i64 t212]) (by rfl) rfl ?_ ?_
          · go_simp
            (try simp only [i64_w])
            try rfl
          refine hK.out _ _ ⟨gb214, m9_, (by rw [ha.out]; exact putSel_upk 6 hb_ rfl rfl rfl), Q_BK197, Q_BK198, Q_BK206, Q_HB, Q_BK214, Q_GW214, Q_GE214, Q_NB197_214, Q_NB214_197, Q_NB198_214, Q_NB214_198, Q_NB206_214, Q_NB214_206, fun h0_ => absurd ((hoff 10 (by kernel_rfl)).symm.trans h0_) (by decide), Q_X9_⟩
        refine steps_cons ?_ ?_
        · rintro b a w' ⟨gb214, m9_, ha, Q_BK197, Q_BK198, Q_BK206, Q_HB, Q_BK214, Q_GW214, Q_GE214, Q_NB197_214, Q_NB214_197, Q_NB198_214, Q_NB214_198, Q_NB206_214, Q_NB214_206, Q_BK214_e10, Q_X9_⟩ hb_ hon hoff
          refine ⟨_, rfl, fun K hK => ?_⟩
          have e20 : a.tmps[20]? = some (.tuple #[.agg #[.int .i64 t211, .int .i64 t212], .bool t213]) := by rw [ha]; exact putSel_on (e := (6, 20, .tuple #[.agg #[.int .i64 t211, .int .i64 t212], .bool t213])) 5 rfl rfl (hon 6 (by kernel_rfl)) rfl
          replace ha := Aside0.mk ha
          have BK197 := Aside0.mk Q_BK197
          have BK198 := Aside0.mk Q_BK198
          have BK206 := Aside0.mk Q_BK206
          have HB := Aside0.mk Q_HB
          refine value_ (w1 := w') (v := .bool t213) (by rfl) rfl ?_ ?_
          · go_simp
            (try simp only [i64_w])
            try rfl
          refine hK.out _ _ ⟨gb214, m9_, (by rw [ha.out]; exact putSel_upk 7 hb_ rfl rfl rfl), Q_BK197, Q_BK198, Q_BK206, Q_HB, Q_BK214, Q_GW214, Q_GE214, Q_NB197_214, Q_NB214_197, Q_NB198_214, Q_NB214_198, Q_NB206_214, Q_NB214_206, Q_BK214_e10, Q_X9_⟩
        refine steps_cons ?_ ?_
        · rintro b a w' ⟨gb214, m9_, ha, Q_BK197, Q_BK198, Q_BK206, Q_HB, Q_BK214, Q_GW214, Q_GE214, Q_NB197_214, Q_NB214_197, Q_NB198_214, Q_NB214_198, Q_NB206_214, Q_NB214_206, Q_BK214_e10, Q_X9_⟩ hb_ hon hoff
          refine ⟨_, rfl, fun K hK => ?_⟩
          replace ha := Aside0.mk ha
          have BK197 := Aside0.mk Q_BK197
          have BK198 := Aside0.mk Q_BK198
          have BK206 := Aside0.mk Q_BK206
          have HB := Aside0.mk Q_HB
          refine box_step ?hg (N := 9) ?hd (cs := #[.int .i64 0, .int .i64 0]) (t := 40) ?hr ?_; (case hd => rfl); (case hg => rfl); (case hr => first | (go_simp; done) | (go_simp; rfl))
          intro gb214 hg w24 hbox hb
          have n0_ := Aside0.mk (blk_below (g := gb197) (o := .cells #[.int .i64 a1_0, .int .i64 a1_1] 39 (0, 0)) (by (with_reducible repeat (first | refine blk_drewN ?_ _ | refine blk_drew ?_ | refine blk_alloc ?_ _)); exact BK197.out) hb)
          have n1_ := Aside0.mk (blk_below (g := gb198) (o := .cells #[.int .i64 a2_0, .int .i64 a2_1] 39 (0, 0)) (by (with_reducible repeat (first | refine blk_drewN ?_ _ | refine blk_drew ?_ | refine blk_alloc ?_ _)); exact BK198.out) hb)
          have n2_ := Aside0.mk (blk_below (g := gb206) (o := .cells #[.int .i64 t203, .int .i64 t204] 40 (0, 0)) (by (with_reducible repeat (first | refine blk_drewN ?_ _ | refine blk_drew ?_ | refine blk_alloc ?_ _)); exact BK206.out) hb)
          have n3_ := Aside0.mk (below_step (by repeat (first | (with_reducible first | exact HB.out | apply below_alloc | apply pw_below_drewN | apply below_drew1 | refine below_set ?_ GE197.out | refine below_set ?_ GE198.out | refine below_set ?_ GE206.out) | exact HB.out)) hb)
          have n4_ := Aside0.mk (hbox)
          have n5_ := Aside0.mk ((by rw [hg]; exact (below_size (by repeat (first | (with_reducible first | exact HB.out | apply below_alloc | apply pw_below_drewN | apply below_drew1 | refine below_set ?_ GE197.out | refine below_set ?_ GE198.out | refine below_set ?_ GE206.out) | exact HB.out))) : w.heap.size ≤ gb214))
          have n6_ := Aside0.mk ((by rw [hg]; exact (below_size (by repeat (first | (with_reducible first | exact HB.out | apply below_alloc | apply pw_below_drewN | apply below_drew1 | refine below_set ?_ GE197.out | refine below_set ?_ GE198.out | refine below_set ?_ GE206.out) | exact HB.out))) : w.heap.size ≤ gb214))
          have n7_ := Aside0.mk ((by rw [hg]; exact Nat.ne_of_lt (blk_lt (g := gb197) (o := .cells #[.int .i64 a1_0, .int .i64 a1_1] 39 (0, 0)) (by (with_reducible repeat (first | refine blk_drewN ?_ _ | refine blk_drew ?_ | refine blk_alloc ?_ _)); exact BK197.out)) : gb197 ≠ gb214))
          have n8_ := Aside0.mk ((by rw [hg]; exact Nat.ne_of_gt (blk_lt (g := gb197) (o := .cells #[.int .i64 a1_0, .int .i64 a1_1] 39 (0, 0)) (by (with_reducible repeat (first | refine blk_drewN ?_ _ | refine blk_drew ?_ | refine blk_alloc ?_ _)); exact BK197.out)) : gb214 ≠ gb197))
          have n9_ := Aside0.mk ((by rw [hg]; exact Nat.ne_of_lt (blk_lt (g := gb198) (o := .cells #[.int .i64 a2_0, .int .i64 a2_1] 39 (0, 0)) (by (with_reducible repeat (first | refine blk_drewN ?_ _ | refine blk_drew ?_ | refine blk_alloc ?_ _)); exact BK198.out)) : gb198 ≠ gb214))
          have n10_ := Aside0.mk ((by rw [hg]; exact Nat.ne_of_gt (blk_lt (g := gb198) (o := .cells #[.int .i64 a2_0, .int .i64 a2_1] 39 (0, 0)) (by (with_reducible repeat (first | refine blk_drewN ?_ _ | refine blk_drew ?_ | refine blk_alloc ?_ _)); exact BK198.out)) : gb214 ≠ gb198))
          have n11_ := Aside0.mk ((by rw [hg]; exact Nat.ne_of_lt (blk_lt (g := gb206) (o := .cells #[.int .i64 t203, .int .i64 t204] 40 (0, 0)) (by (with_reducible repeat (first | refine blk_drewN ?_ _ | refine blk_drew ?_ | refine blk_alloc ?_ _)); exact BK206.out)) : gb206 ≠ gb214))
          have n12_ := Aside0.mk ((by rw [hg]; exact Nat.ne_of_gt (blk_lt (g := gb206) (o := .cells #[.int .i64 t203, .int .i64 t204] 40 (0, 0)) (by (with_reducible repeat (first | refine blk_drewN ?_ _ | refine blk_drew ?_ | refine blk_alloc ?_ _)); exact BK206.out)) : gb214 ≠ gb206))
          clear BK197
          clear BK198
          clear BK206
          clear HB
          have BK197 := n0_
          have BK198 := n1_
          have BK206 := n2_
          have HB := n3_
          have BK214 := n4_
          have GW214 := n5_
          have GE214 := n6_
          have NB197_214 := n7_
          have NB214_197 := n8_
          have NB198_214 := n9_
          have NB214_198 := n10_
          have NB206_214 := n11_
          have NB214_206 := n12_
          clear n0_ n1_ n2_ n3_ n4_ n5_ n6_ n7_ n8_ n9_ n10_ n11_ n12_
          clear hb hbox hg
          refine hK.out _ _ ⟨gb214, (.pointer (some ⟨gb214, 0, none⟩)), (by rw [ha.out]; exact putSel_upk 8 hb_ rfl rfl rfl), (by (with_reducible repeat (first | refine blk_drewN ?_ _ | refine blk_drew ?_ | refine blk_alloc ?_ _)); exact BK197.out), (by (with_reducible repeat (first | refine blk_drewN ?_ _ | refine blk_drew ?_ | refine blk_alloc ?_ _)); exact BK198.out), (by (with_reducible repeat (first | refine blk_drewN ?_ _ | refine blk_drew ?_ | refine blk_alloc ?_ _)); exact BK206.out), (by repeat (first | (with_reducible first | exact HB.out | apply below_alloc | apply pw_below_drewN | apply below_drew1 | refine below_set ?_ GE197.out | refine below_set ?_ GE198.out | refine below_set ?_ GE206.out | refine below_set ?_ GE214.out) | exact HB.out)), fun _ _ => (by (with_reducible repeat (first | refine blk_drewN ?_ _ | refine blk_drew ?_ | refine blk_alloc ?_ _)); exact BK214.out), fun _ => GW214.out, fun _ => GE214.out, fun _ => NB197_214.out, fun _ => NB214_197.out, fun _ => NB198_214.out, fun _ => NB214_198.out, fun _ => NB206_214.out, fun _ => NB214_206.out, fun h0_ => absurd ((hoff 10 (by kernel_rfl)).symm.trans h0_) (by decide), fun _ => rfl⟩
        refine steps_cons ?_ ?_
        · rintro b a w' ⟨gb214, m9_, ha, Q_BK197, Q_BK198, Q_BK206, Q_HB, Q_BK214, Q_GW214, Q_GE214, Q_NB197_214, Q_NB214_197, Q_NB198_214, Q_NB214_198, Q_NB206_214, Q_NB214_206, Q_BK214_e10, Q_X9_⟩ hb_ hon hoff
          refine ⟨_, rfl, fun K hK => ?_⟩
          have e9 : a.tmps[9]? = some (m9_) := by rw [ha]; exact putSel_on (e := (9, 9, m9_)) 8 rfl rfl (hon 9 (by kernel_rfl)) rfl
          rw [Q_X9_ (hon 9 (by kernel_rfl))] at e9
          have e27 : a.tmps[27]? = some (.agg #[.int .i64 t211, .int .i64 t212]) := by rw [ha]; exact putSel_on (e := (7, 27, .agg #[.int .i64 t211, .int .i64 t212])) 6 rfl rfl (hon 7 (by kernel_rfl)) rfl
          replace ha := Aside0.mk ha
          have BK197 := Aside0.mk Q_BK197
          have BK198 := Aside0.mk Q_BK198
          have BK206 := Aside0.mk Q_BK206
          have HB := Aside0.mk Q_HB
          have BK214 := Aside0.mk (Q_BK214 (hon 9 (by kernel_rfl)) hb_)
          have GW214 := Aside0.mk (Q_GW214 (hon 9 (by kernel_rfl)))
          have GE214 := Aside0.mk (Q_GE214 (hon 9 (by kernel_rfl)))
          have NB197_214 := Aside0.mk (Q_NB197_214 (hon 9 (by kernel_rfl)))
          have NB214_197 := Aside0.mk (Q_NB214_197 (hon 9 (by kernel_rfl)))
          have NB198_214 := Aside0.mk (Q_NB198_214 (hon 9 (by kernel_rfl)))
          have NB214_198 := Aside0.mk (Q_NB214_198 (hon 9 (by kernel_rfl)))
          have NB206_214 := Aside0.mk (Q_NB206_214 (hon 9 (by kernel_rfl)))
          have NB214_206 := Aside0.mk (Q_NB214_206 (hon 9 (by kernel_rfl)))
          have hs29 : w'.cell? ⟨gb214, 0, none⟩ = some (.int .i64 0) := (blk_cell BK214.out 0).trans rfl
          have hfs29 := blk_frozen BK214.out 0
          have hns29_0 := NB197_214.out
          have hns29_1 := NB198_214.out
          have hns29_2 := NB206_214.out
          have hms29_0 := NB214_197.out
          have hms29_1 := NB214_198.out
          have hms29_2 := NB214_206.out
          have hs30 : w'.cell? ⟨gb214, 1, none⟩ = some (.int .i64 0) := (blk_cell BK214.out 1).trans rfl
          have hfs30 := blk_frozen BK214.out 1
          have hns30_0 := NB197_214.out
          have hns30_1 := NB198_214.out
          have hns30_2 := NB206_214.out
          have hms30_0 := NB214_197.out
          have hms30_1 := NB214_198.out
          have hms30_2 := NB214_206.out
          refine skip_ (w1 := ?_) (by rfl) rfl ?_ ?_
          rotate_left
          · go_simp
            rfl
          refine hK.out _ _ ⟨gb214, m9_, (by rw [ha.out]; exact putSel_none (v := undef) rfl), (by (with_reducible repeat (first | refine blk_drewN ?_ _ | refine blk_drew ?_ | refine blk_alloc ?_ _)); refine blk_far ?_ NB197_214.out _; (with_reducible repeat (first | refine blk_drewN ?_ _ | refine blk_drew ?_ | refine blk_alloc ?_ _)); refine blk_far ?_ NB197_214.out _; (with_reducible repeat (first | refine blk_drewN ?_ _ | refine blk_drew ?_ | refine blk_alloc ?_ _)); exact BK197.out), (by (with_reducible repeat (first | refine blk_drewN ?_ _ | refine blk_drew ?_ | refine blk_alloc ?_ _)); refine blk_far ?_ NB198_214.out _; (with_reducible repeat (first | refine blk_drewN ?_ _ | refine blk_drew ?_ | refine blk_alloc ?_ _)); refine blk_far ?_ NB198_214.out _; (with_reducible repeat (first | refine blk_drewN ?_ _ | refine blk_drew ?_ | refine blk_alloc ?_ _)); exact BK198.out), (by (with_reducible repeat (first | refine blk_drewN ?_ _ | refine blk_drew ?_ | refine blk_alloc ?_ _)); refine blk_far ?_ NB206_214.out _; (with_reducible repeat (first | refine blk_drewN ?_ _ | refine blk_drew ?_ | refine blk_alloc ?_ _)); refine blk_far ?_ NB206_214.out _; (with_reducible repeat (first | refine blk_drewN ?_ _ | refine blk_drew ?_ | refine blk_alloc ?_ _)); exact BK206.out), (by repeat (first | (with_reducible first | exact HB.out | apply below_alloc | apply pw_below_drewN | apply below_drew1 | refine below_set ?_ GE197.out | refine below_set ?_ GE198.out | refine below_set ?_ GE206.out | refine below_set ?_ GE214.out) | exact HB.out)), fun _ h1_ => absurd ((up_self b 10).symm.trans h1_) (by decide), fun _ => GW214.out, fun _ => GE214.out, fun _ => NB197_214.out, fun _ => NB214_197.out, fun _ => NB198_214.out, fun _ => NB214_198.out, fun _ => NB206_214.out, fun _ => NB214_206.out, fun _ => (by (with_reducible repeat (first | refine blk_drewN ?_ _ | refine blk_drew ?_ | refine blk_alloc ?_ _)); refine blk_put (cs := #[.int .i64 t211, .int .i64 0]) ?_ 1 _ rfl; (with_reducible repeat (first | refine blk_drewN ?_ _ | refine blk_drew ?_ | refine blk_alloc ?_ _)); refine blk_put (cs := #[.int .i64 0, .int .i64 0]) ?_ 0 _ rfl; (with_reducible repeat (first | refine blk_drewN ?_ _ | refine blk_drew ?_ | refine blk_alloc ?_ _)); exact BK214.out), Q_X9_⟩
        refine steps_cons ?_ ?_
        · rintro b a w' ⟨gb214, m9_, ha, Q_BK197, Q_BK198, Q_BK206, Q_HB, Q_BK214, Q_GW214, Q_GE214, Q_NB197_214, Q_NB214_197, Q_NB198_214, Q_NB214_198, Q_NB206_214, Q_NB214_206, Q_BK214_e10, Q_X9_⟩ hb_ hon hoff
          refine ⟨_, rfl, fun K hK => ?_⟩
          have e28 : a.tmps[28]? = some (.bool t213) := by rw [ha]; exact putSel_on (e := (8, 28, .bool t213)) 7 rfl rfl (hon 8 (by kernel_rfl)) rfl
          replace ha := Aside0.mk ha
          have BK197 := Aside0.mk Q_BK197
          have BK198 := Aside0.mk Q_BK198
          have BK206 := Aside0.mk Q_BK206
          have HB := Aside0.mk Q_HB
          have GW214 := Aside0.mk (Q_GW214 (hon 9 (by kernel_rfl)))
          have GE214 := Aside0.mk (Q_GE214 (hon 9 (by kernel_rfl)))
          have NB197_214 := Aside0.mk (Q_NB197_214 (hon 9 (by kernel_rfl)))
          have NB214_197 := Aside0.mk (Q_NB214_197 (hon 9 (by kernel_rfl)))
          have NB198_214 := Aside0.mk (Q_NB198_214 (hon 9 (by kernel_rfl)))
          have NB214_198 := Aside0.mk (Q_NB214_198 (hon 9 (by kernel_rfl)))
          have NB206_214 := Aside0.mk (Q_NB206_214 (hon 9 (by kernel_rfl)))
          have NB214_206 := Aside0.mk (Q_NB214_206 (hon 9 (by kernel_rfl)))
          have BK214 := Aside0.mk (Q_BK214_e10 (hon 10 (by kernel_rfl)))
          refine value_ (w1 := w') (v := .bool t213) (by rfl) rfl ?_ ?_
          · go_simp
            (try simp only [i64_w])
            try rfl
          refine hK.out _ _ ⟨gb214, m9_, (by rw [ha.out]; exact putSel_upk 9 hb_ rfl rfl rfl), Q_BK197, Q_BK198, Q_BK206, Q_HB, fun _ h1_ => absurd ((hon 10 (by kernel_rfl)).symm.trans h1_) (by decide), Q_GW214, Q_GE214, Q_NB197_214, Q_NB214_197, Q_NB198_214, Q_NB214_198, Q_NB206_214, Q_NB214_206, Q_BK214_e10, Q_X9_⟩
        exact steps_nil
      rintro b a w30 hall ⟨gb214, m9_, ha, Q_BK197, Q_BK198, Q_BK206, Q_HB, Q_BK214, Q_GW214, Q_GE214, Q_NB197_214, Q_NB214_197, Q_NB198_214, Q_NB214_198, Q_NB206_214, Q_NB214_206, Q_BK214_e10, Q_X9_⟩
      clear BK197 BK198 BK206 HB
      have hb1_ := hall 1 (by kernel_rfl)
      have hb2_ := hall 2 (by kernel_rfl)
      have hb3_ := hall 3 (by kernel_rfl)
      have hb4_ := hall 4 (by kernel_rfl)
      have hb5_ := hall 5 (by kernel_rfl)
      have hb6_ := hall 6 (by kernel_rfl)
      have hb7_ := hall 7 (by kernel_rfl)
      have hb8_ := hall 8 (by kernel_rfl)
      have hb9_ := hall 9 (by kernel_rfl)
      have hb10_ := hall 10 (by kernel_rfl)
      have hb11_ := hall 11 (by kernel_rfl)
      subst ha
      obtain rfl := Q_X9_ hb9_
      simp only [putSel, hb1_, hb2_, hb3_, hb4_, hb5_, hb6_, hb7_, hb8_, hb9_, hb10_, hb11_, if_true, Act.put, List.setIfInBounds_toArray, List.set_cons_zero, List.set_cons_succ]
      have BK197 := Aside0.mk Q_BK197
      clear Q_BK197
      have BK198 := Aside0.mk Q_BK198
      clear Q_BK198
      have BK206 := Aside0.mk Q_BK206
      clear Q_BK206
      have HB := Aside0.mk Q_HB
      clear Q_HB
      clear Q_BK214
      have GW214 := Aside0.mk (Q_GW214 hb9_)
      clear Q_GW214
      have GE214 := Aside0.mk (Q_GE214 hb9_)
      clear Q_GE214
      have NB197_214 := Aside0.mk (Q_NB197_214 hb9_)
      clear Q_NB197_214
      have NB214_197 := Aside0.mk (Q_NB214_197 hb9_)
      clear Q_NB214_197
      have NB198_214 := Aside0.mk (Q_NB198_214 hb9_)
      clear Q_NB198_214
      have NB214_198 := Aside0.mk (Q_NB214_198 hb9_)
      clear Q_NB214_198
      have NB206_214 := Aside0.mk (Q_NB206_214 hb9_)
      clear Q_NB206_214
      have NB214_206 := Aside0.mk (Q_NB214_206 hb9_)
      clear Q_NB214_206
      have BK214 := Aside0.mk (Q_BK214_e10 hb10_)
      clear Q_BK214_e10
      clear hall hb1_ hb2_ hb3_ hb4_ hb5_ hb6_ hb7_ hb8_ hb9_ hb10_ hb11_
      have hnb31 := NB214_197.out
      have hnc31 := NB197_214.out
      have hnb32 := NB214_198.out
      have hnc32 := NB198_214.out
      have hnb33 := NB214_206.out
      have hnc33 := NB206_214.out
      have hcz34_0 : w30.cell? ⟨gb214, 0, none⟩ = some (.int .i64 t211) := (blk_cell BK214.out 0).trans rfl
      have hcz34_1 : w30.cell? ⟨gb214, 1, none⟩ = some (.int .i64 t212) := (blk_cell BK214.out 1).trans rfl
      have hfz34_0 := blk_frozen BK214.out 0
      have hfz34_1 := blk_frozen BK214.out 1
      have hnb35 := NB206_197.out
      have hnc35 := NB197_206.out
      have hnb36 := NB206_198.out
      have hnc36 := NB198_206.out
      have hcz37_0 : w30.cell? ⟨gb206, 0, none⟩ = some (.int .i64 t203) := (blk_cell BK206.out 0).trans rfl
      have hcz37_1 : w30.cell? ⟨gb206, 1, none⟩ = some (.int .i64 t204) := (blk_cell BK206.out 1).trans rfl
      have hfz37_0 := blk_frozen BK206.out 0
      have hfz37_1 := blk_frozen BK206.out 1
      try go_wp2_with (first | ((with_reducible refine gate_callee (f := 24) rfl ?_); refine goesL_ (some 31) rfl rfl Try.func24 (by kernel_rfl) rfl #[.agg #[.int .i64 t211, .int .i64 t212], .agg #[.int .i64 t203, .int .i64 t204]] rfl (by (try simp only [List.map_toArray, List.map_cons, List.map_nil]); first | done | rfl | (simp only [List.length_drop, List.length_take]; rfl)) ?_; (with_reducible refine (laws_eqStretch.calls t211 t212 t203 t204 true _ A10.out).mono ?_); rintro e w38 ⟨rfl, hb⟩; refine ⟨_, rfl, ?_⟩; have n0_ := Aside0.mk (blk_below (g := gb197) (o := .cells #[.int .i64 a1_0, .int .i64 a1_1] 39 (0, 0)) (by (with_reducible repeat (first | refine blk_drewN ?_ _ | refine blk_drew ?_ | refine blk_alloc ?_ _)); exact BK197.out) hb); have n1_ := Aside0.mk (blk_below (g := gb198) (o := .cells #[.int .i64 a2_0, .int .i64 a2_1] 39 (0, 0)) (by (with_reducible repeat (first | refine blk_drewN ?_ _ | refine blk_drew ?_ | refine blk_alloc ?_ _)); exact BK198.out) hb); have n2_ := Aside0.mk (blk_below (g := gb206) (o := .cells #[.int .i64 t203, .int .i64 t204] 40 (0, 0)) (by (with_reducible repeat (first | refine blk_drewN ?_ _ | refine blk_drew ?_ | refine blk_alloc ?_ _)); exact BK206.out) hb); have n3_ := Aside0.mk (blk_below (g := gb214) (o := .cells #[.int .i64 t211, .int .i64 t212] 40 (0, 0)) (by (with_reducible repeat (first | refine blk_drewN ?_ _ | refine blk_drew ?_ | refine blk_alloc ?_ _)); exact BK214.out) hb); have n4_ := Aside0.mk (below_step (by repeat (first | (with_reducible first | exact HB.out | apply below_alloc | apply pw_below_drewN | apply below_drew1 | refine below_set ?_ GE197.out | refine below_set ?_ GE198.out | refine below_set ?_ GE206.out | refine below_set ?_ GE214.out) | exact HB.out)) hb); clear BK197; clear BK198; clear BK206; clear BK214; clear HB; have BK197 := n0_; have BK198 := n1_; have BK206 := n2_; have BK214 := n3_; have HB := n4_; clear n0_ n1_ n2_ n3_ n4_; (try clear hb); (try clear hb2); (try clear hk); (try clear hi)))
      go_ret
      exact ⟨by first | rfl | (simp [errW_none, errW_some] <;> rfl) | (simp [*, errW_none, errW_some] <;> rfl), by repeat (first | (with_reducible first | exact HB.out | apply below_alloc | apply pw_below_drewN | apply below_drew1 | refine below_set ?_ GE197.out | refine below_set ?_ GE198.out | refine below_set ?_ GE206.out | refine below_set ?_ GE214.out) | exact HB.out)⟩
  · replace c11 := Bool.eq_false_iff.mpr c11
    subst c11
    have H1 : (some false) = some r := by rw [if_neg (show ¬ (false = true) by decide)] at H; exact H
    clear H
    have H := H1
    clear H1
    exact absurd (Option.some.inj H).symm (by rw [hr_.out]; simp)

/-- The one pure statement of laws_FnExactDoStretch. -/
def laws_FnExactDoStretch.Pure : Prop := ∀ (a0 : Int) (a1_0 : Int) (a1_1 : Int) (a2_0 : Int) (a2_1 : Int), ((Lit.int .i64 a0).wf = true) → ((Lit.int .i64 a1_0).wf = true) → ((Lit.int .i64 a1_1).wf = true) → ((Lit.int .i64 a2_0).wf = true) → ((Lit.int .i64 a2_1).wf = true) → ∃ k, laws_FnExactDoStretch.f k a0 a1_0 a1_1 a2_0 a2_1 = some true
theorem laws_FnExactDoStretch.walk (P : laws_FnExactDoStretch.Pure) (w : World) (a0 : Int) (hg0 : (Lit.int .i64 a0).wf = true) (a1_0 : Int) (hg1_0 : (Lit.int .i64 a1_0).wf = true) (a1_1 : Int) (hg1_1 : (Lit.int .i64 a1_1).wf = true) (a2_0 : Int) (hg2_0 : (Lit.int .i64 a2_0).wf = true) (a2_1 : Int) (hg2_1 : (Lit.int .i64 a2_1).wf = true) :
    Calls Try.prog 6 #[.int .i64 a0, .agg #[.int .i64 a1_0, .int .i64 a1_1], .agg #[.int .i64 a2_0, .int .i64 a2_1]] w fun e w' => e = .returned (.bool true) ∧ Below w.heap.size w w' := by
  obtain ⟨k, h⟩ := P a0 a1_0 a1_1 a2_0 a2_1 hg0 hg1_0 hg1_1 hg2_0 hg2_1
  refine (laws_FnExactDoStretch.calls k a0 a1_0 a1_1 a2_0 a2_1 true w  ⟨rfl⟩ h).mono ?_
  rintro e w' ⟨rfl, hd⟩
  exact ⟨rfl, hd⟩

end Go.Proofs.Ytggddmpomdpdjaa.PHS
