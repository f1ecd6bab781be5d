-- Made by myprint.py (this session's program, over the kit's print) for this claim. Lean checks it.
import Derived.Test.YtpjbemdbbjjblaaPGSx0
import Derived.Test.YtpjbemdbbjjblaaPGSx1
import Derived.Test.YtpjbemdbbjjblaaPGSx2
namespace Go.Proofs.Ytpjbemdbbjjblaa.PGS
open Go.RowKit Go.Proofs.YtpjbemdbbjjblaaW.PrintWords Go.Proofs.YtpjbemdbbjjblaaW.PrintLast Go.Proofs.YtpjbemdbbjjblaaW.PrintMore
attribute [local go_sem] max2_int min2_int max_two min_two max_three min_three max_four min_four   -- for this text's walks alone
set_option linter.unusedVariables false
set_option linter.unusedSimpArgs false

/-! ### laws_FnExactSplitLess: function 12 -/
def laws_FnExactSplitLess.f (a0_0 : Int) (a0_1 : Int) (a1_0 : Int) (a1_1 : Int) : Option (Bool) := (laws_toStretch.f a0_0 a0_1).bind fun bt154 => ((laws_toStretch.f a1_0 a1_1).bind fun bt156 => ((spec_SplitLess.f bt154.1 bt154.2 bt156.1 bt156.2).bind fun bt158 => ((laws_toStretch.f a0_0 a0_1).bind fun bt165 => ((laws_toStretch.f a1_0 a1_1).bind fun bt167 => ((impl_SplitLess.f bt165.1 bt165.2 bt167.1 bt167.2).bind fun bt169 => ((laws_eqStretch.f bt169.1 bt169.2.1 bt158.1 bt158.2.1).bind fun t176 => (if t176 = true then ((laws_eqStretch.f bt169.2.2.1 bt169.2.2.2.1 bt158.2.2.1 bt158.2.2.2.1).bind fun t177 => (if t177 = true then (if (bt169.2.2.2.2 != bt158.2.2.2.2) = true then (some false) else (some true)) else (some false))) else (some false))))))))
def laws_FnExactSplitLess.T1 : Bool × List (List Nat × List Nat) := (true, [([], []), ([0], [0]), ([], []), ([2, 1], [2]), ([1, 3, 3], [1, 3]), ([4], [4]), ([5], [5]), ([5], [5]), ([5], [5]), ([], []), ([], []), ([9, 6, 4, 0, 1, 2, 3, 4, 5, 6, 9, 10], [6, 9]), ([10, 7, 11, 0, 1, 2, 3, 4, 5, 6, 7, 9, 10, 11], [7, 10]), ([8, 12, 0, 1, 2, 3, 4, 5, 6, 7, 8, 9, 10, 11, 12], [8])])
def laws_FnExactSplitLess.B1 : List Nat := [0, 1, 0, 7, 15, 31, 63, 63, 63, 0, 0, 1663, 3839, 8191]
theorem laws_FnExactSplitLess.tab1 : rtab .any (opsOf Try.f12 1) = laws_FnExactSplitLess.T1 := by kernel_rfl
theorem laws_FnExactSplitLess.bits1 : waitsOk laws_FnExactSplitLess.T1.2 laws_FnExactSplitLess.B1 = true := by kernel_rfl
def laws_FnExactSplitLess.T2 : Bool × List (List Nat × List Nat) := (true, [([], []), ([0], [0]), ([], []), ([2, 1], [2]), ([1, 3, 3], [1, 3]), ([4], [4]), ([5], [5]), ([5], [5]), ([5], [5]), ([], []), ([], []), ([9, 6, 4, 0, 1, 2, 3, 4, 5, 6, 9, 10], [6, 9]), ([10, 7, 11, 0, 1, 2, 3, 4, 5, 6, 7, 9, 10, 11], [7, 10]), ([8, 12, 0, 1, 2, 3, 4, 5, 6, 7, 8, 9, 10, 11, 12], [8])])
def laws_FnExactSplitLess.B2 : List Nat := [0, 1, 0, 7, 15, 31, 63, 63, 63, 0, 0, 1663, 3839, 8191]
theorem laws_FnExactSplitLess.tab2 : rtab .any (opsOf Try.f12 2) = laws_FnExactSplitLess.T2 := by kernel_rfl
theorem laws_FnExactSplitLess.bits2 : waitsOk laws_FnExactSplitLess.T2.2 laws_FnExactSplitLess.B2 = true := by kernel_rfl
set_option maxHeartbeats 8000000 in
set_option maxRecDepth 100000 in
theorem laws_FnExactSplitLess.calls (a0_0 : Int) (a0_1 : Int) (a1_0 : Int) (a1_1 : Int) (r : Bool) (w : World) (hr_ : Aside0 (r = true)) (h : laws_FnExactSplitLess.f a0_0 a0_1 a1_0 a1_1 = some r) :
    Calls Try.prog 12 #[.agg #[.int .i64 a0_0, .int .i64 a0_1], .agg #[.int .i64 a1_0, .int .i64 a1_1]] w fun e w' => e = .returned (.bool r) ∧ Below w.heap.size w w' := by
  have hu29 := Try.underlying29
  have hu31 := Try.underlying31
  have HB := Aside0.mk (Below.refl w.heap.size w)
  have H : ((laws_toStretch.f a0_0 a0_1).bind fun bt154 => ((laws_toStretch.f a1_0 a1_1).bind fun bt156 => ((spec_SplitLess.f bt154.1 bt154.2 bt156.1 bt156.2).bind fun bt158 => ((laws_toStretch.f a0_0 a0_1).bind fun bt165 => ((laws_toStretch.f a1_0 a1_1).bind fun bt167 => ((impl_SplitLess.f bt165.1 bt165.2 bt167.1 bt167.2).bind fun bt169 => ((laws_eqStretch.f bt169.1 bt169.2.1 bt158.1 bt158.2.1).bind fun t176 => (if t176 = true then ((laws_eqStretch.f bt169.2.2.1 bt169.2.2.2.1 bt158.2.2.1 bt158.2.2.2.1).bind fun t177 => (if t177 = true then (if (bt169.2.2.2.2 != bt158.2.2.2.2) = true then (some false) else (some true)) else (some false))) else (some false))))))))) = some r := h
  clear h
  replace H := Option.bind_eq_some_iff.mp H
  obtain ⟨⟨t154, t155⟩, A30, H⟩ := H
  replace H : ((laws_toStretch.f a1_0 a1_1).bind fun bt156 => ((spec_SplitLess.f t154 t155 bt156.1 bt156.2).bind fun bt158 => ((laws_toStretch.f a0_0 a0_1).bind fun bt165 => ((laws_toStretch.f a1_0 a1_1).bind fun bt167 => ((impl_SplitLess.f bt165.1 bt165.2 bt167.1 bt167.2).bind fun bt169 => ((laws_eqStretch.f bt169.1 bt169.2.1 bt158.1 bt158.2.1).bind fun t176 => (if t176 = true then ((laws_eqStretch.f bt169.2.2.1 bt169.2.2.2.1 bt158.2.2.1 bt158.2.2.2.1).bind fun t177 => (if t177 = true then (if (bt169.2.2.2.2 != bt158.2.2.2.2) = true then (some false) else (some true)) else (some false))) else (some false)))))))) = some r := H
  have A3 := Aside0.mk A30
  clear A30
  replace H := Option.bind_eq_some_iff.mp H
  obtain ⟨⟨t156, t157⟩, A40, H⟩ := H
  replace H : ((spec_SplitLess.f t154 t155 t156 t157).bind fun bt158 => ((laws_toStretch.f a0_0 a0_1).bind fun bt165 => ((laws_toStretch.f a1_0 a1_1).bind fun bt167 => ((impl_SplitLess.f bt165.1 bt165.2 bt167.1 bt167.2).bind fun bt169 => ((laws_eqStretch.f bt169.1 bt169.2.1 bt158.1 bt158.2.1).bind fun t176 => (if t176 = true then ((laws_eqStretch.f bt169.2.2.1 bt169.2.2.2.1 bt158.2.2.1 bt158.2.2.2.1).bind fun t177 => (if t177 = true then (if (bt169.2.2.2.2 != bt158.2.2.2.2) = true then (some false) else (some true)) else (some false))) else (some false))))))) = some r := H
  have A4 := Aside0.mk A40
  clear A40
  replace H := Option.bind_eq_some_iff.mp H
  obtain ⟨⟨t158, t159, t160, t161, t162⟩, A50, H⟩ := H
  replace H : ((laws_toStretch.f a0_0 a0_1).bind fun bt165 => ((laws_toStretch.f a1_0 a1_1).bind fun bt167 => ((impl_SplitLess.f bt165.1 bt165.2 bt167.1 bt167.2).bind fun bt169 => ((laws_eqStretch.f bt169.1 bt169.2.1 t158 t159).bind fun t176 => (if t176 = true then ((laws_eqStretch.f bt169.2.2.1 bt169.2.2.2.1 t160 t161).bind fun t177 => (if t177 = true then (if (bt169.2.2.2.2 != t162) = true then (some false) else (some true)) else (some false))) else (some false)))))) = some r := H
  have A5 := Aside0.mk A50
  clear A50
  replace H := Option.bind_eq_some_iff.mp H
  obtain ⟨⟨t165, t166⟩, A60, H⟩ := H
  replace H : ((laws_toStretch.f a1_0 a1_1).bind fun bt167 => ((impl_SplitLess.f t165 t166 bt167.1 bt167.2).bind fun bt169 => ((laws_eqStretch.f bt169.1 bt169.2.1 t158 t159).bind fun t176 => (if t176 = true then ((laws_eqStretch.f bt169.2.2.1 bt169.2.2.2.1 t160 t161).bind fun t177 => (if t177 = true then (if (bt169.2.2.2.2 != t162) = true then (some false) else (some true)) else (some false))) else (some false))))) = some r := H
  have A6 := Aside0.mk A60
  clear A60
  replace H := Option.bind_eq_some_iff.mp H
  obtain ⟨⟨t167, t168⟩, A70, H⟩ := H
  replace H : ((impl_SplitLess.f t165 t166 t167 t168).bind fun bt169 => ((laws_eqStretch.f bt169.1 bt169.2.1 t158 t159).bind fun t176 => (if t176 = true then ((laws_eqStretch.f bt169.2.2.1 bt169.2.2.2.1 t160 t161).bind fun t177 => (if t177 = true then (if (bt169.2.2.2.2 != t162) = true then (some false) else (some true)) else (some false))) else (some false)))) = some r := H
  have A7 := Aside0.mk A70
  clear A70
  replace H := Option.bind_eq_some_iff.mp H
  obtain ⟨⟨t169, t170, t171, t172, t173⟩, A80, H⟩ := H
  replace H : ((laws_eqStretch.f t169 t170 t158 t159).bind fun t176 => (if t176 = true then ((laws_eqStretch.f t171 t172 t160 t161).bind fun t177 => (if t177 = true then (if (t173 != t162) = true then (some false) else (some true)) else (some false))) else (some false))) = some r := H
  have A8 := Aside0.mk A80
  clear A80
  replace H := Option.bind_eq_some_iff.mp H
  obtain ⟨t176, A90, H⟩ := H
  replace H : (if t176 = true then ((laws_eqStretch.f t171 t172 t160 t161).bind fun t177 => (if t177 = true then (if (t173 != t162) = true then (some false) else (some true)) else (some false))) else (some false)) = some r := H
  have A9 := Aside0.mk A90
  clear A90
  by_cases c10 : t176 = true
  · subst c10
    have H1 : ((laws_eqStretch.f t171 t172 t160 t161).bind fun t177 => (if t177 = true then (if (t173 != t162) = true then (some false) else (some true)) else (some false))) = some r := by rw [if_pos rfl] at H; exact H
    clear H
    have H := H1
    clear H1
    replace H := Option.bind_eq_some_iff.mp H
    obtain ⟨t177, A110, H⟩ := H
    replace H : (if t177 = true then (if (t173 != t162) = true then (some false) else (some true)) else (some false)) = some r := H
    have A11 := Aside0.mk A110
    clear A110
    by_cases c12 : t177 = true
    · subst c12
      have H1 : (if (t173 != t162) = true then (some false) else (some true)) = some r := by rw [if_pos rfl] at H; exact H
      clear H
      have H := H1
      clear H1
      by_cases c13 : (t173 != t162) = true
      · rw [if_pos c13] at H
        have c13b0 : (t173 != t162) = true := c13
        (try (have c13b1 : decide (t173 = t162) = false := by simpa using c13))
        (try (have c13b2 : (t173 == t162) = false := by simpa using c13))
        (try (have c13b3 : ¬ (t173 = t162) := by simpa using c13))
        clear c13
        exact absurd (Option.some.inj H).symm (by rw [hr_.out]; simp)
      · rw [if_neg c13] at H
        have c13b0 : (t173 != t162) = false := by simpa using c13
        (try (have c13b1 : decide (t173 = t162) = true := by simpa using c13))
        (try (have c13b2 : (t173 == t162) = true := by simpa using c13))
        clear c13
        obtain rfl := Option.some.inj H
        go_enter Try.func12, Try.ntmps12
        try go_wp2_with (first | ((with_reducible refine gate_dst (N := 2) rfl ?_); refine box_event ?hg (N := 2) ?hd (cs := #[.int .i64 a0_0, .int .i64 a0_1]) (t := 29) ?hr ?_; (case hd => rfl); (case hg => rfl); (case hr => first | (go_simp; done) | (go_simp; rfl)); intro gb152 hg w14 hbox hb; have n0_ := Aside0.mk (below_step (by repeat (first | (with_reducible first | exact HB.out | apply below_alloc | apply pw_below_drewN | apply below_drew1) | exact HB.out)) hb); have n1_ := Aside0.mk (hbox); have n2_ := Aside0.mk ((by rw [hg]; exact (below_size (by repeat (first | (with_reducible first | exact HB.out | apply below_alloc | apply pw_below_drewN | apply below_drew1) | exact HB.out))) : w.heap.size ≤ gb152)); have n3_ := Aside0.mk ((by rw [hg]; exact (below_size (by repeat (first | (with_reducible first | exact HB.out | apply below_alloc | apply pw_below_drewN | apply below_drew1) | exact HB.out))) : w.heap.size ≤ gb152)); clear HB; have HB := n0_; have BK152 := n1_; have GW152 := n2_; have GE152 := n3_; clear n0_ n1_ n2_ n3_; clear hb hbox hg) | ((with_reducible refine gate_dst (N := 3) rfl ?_); refine box_event ?hg (N := 3) ?hd (cs := #[.int .i64 a1_0, .int .i64 a1_1]) (t := 29) ?hr ?_; (case hd => rfl); (case hg => rfl); (case hr => first | (go_simp; done) | (go_simp; rfl)); intro gb153 hg w15 hbox hb; have n0_ := Aside0.mk (blk_below (g := gb152) (o := .cells #[.int .i64 a0_0, .int .i64 a0_1] 29 (0, 0)) (by (with_reducible repeat (first | refine blk_drewN ?_ _ | refine blk_drew ?_ | refine blk_alloc ?_ _)); exact BK152.out) hb); have n1_ := Aside0.mk (below_step (by repeat (first | (with_reducible first | exact HB.out | apply below_alloc | apply pw_below_drewN | apply below_drew1 | refine below_set ?_ GE152.out) | exact HB.out)) hb); have n2_ := Aside0.mk (hbox); have n3_ := Aside0.mk ((by rw [hg]; exact (below_size (by repeat (first | (with_reducible first | exact HB.out | apply below_alloc | apply pw_below_drewN | apply below_drew1 | refine below_set ?_ GE152.out) | exact HB.out))) : w.heap.size ≤ gb153)); have n4_ := Aside0.mk ((by rw [hg]; exact (below_size (by repeat (first | (with_reducible first | exact HB.out | apply below_alloc | apply pw_below_drewN | apply below_drew1 | refine below_set ?_ GE152.out) | exact HB.out))) : w.heap.size ≤ gb153)); have n5_ := Aside0.mk ((by rw [hg]; exact Nat.ne_of_lt (blk_lt (g := gb152) (o := .cells #[.int .i64 a0_0, .int .i64 a0_1] 29 (0, 0)) (by (with_reducible repeat (first | refine blk_drewN ?_ _ | refine blk_drew ?_ | refine blk_alloc ?_ _)); exact BK152.out)) : gb152 ≠ gb153)); have n6_ := Aside0.mk ((by rw [hg]; exact Nat.ne_of_gt (blk_lt (g := gb152) (o := .cells #[.int .i64 a0_0, .int .i64 a0_1] 29 (0, 0)) (by (with_reducible repeat (first | refine blk_drewN ?_ _ | refine blk_drew ?_ | refine blk_alloc ?_ _)); exact BK152.out)) : gb153 ≠ gb152)); clear BK152; clear HB; have BK152 := n0_; have HB := n1_; have BK153 := n2_; have GW153 := n3_; have GE153 := n4_; have NB152_153 := n5_; have NB153_152 := n6_; clear n0_ n1_ n2_ n3_ n4_ n5_ n6_; clear hb hbox hg))
        have n0_ := Aside0.mk (blk_drew BK152.out)
        have n1_ := Aside0.mk (blk_drew BK153.out)
        have n2_ := Aside0.mk (below_drew1 HB.out)
        clear BK152
        clear BK153
        clear HB
        have BK152 := n0_
        have BK153 := n1_
        have HB := n2_
        clear n0_ n1_ n2_
        refine start_ (n := 14) (S := fun w' => True) (ds := []) #[false, false, false, false, false, false, false, false, false, false, false, false, false, false] (by kernel_rfl) rfl rfl trivial (fun hHeld => ?_); refine with_tabW laws_FnExactSplitLess.tab1 laws_FnExactSplitLess.bits1 (fun HT_ HW_ => ?_)
        generalize w15.drew = w16 at BK152 BK153 HB hHeld ⊢
        refine inv_at [0, 1, 2, 3, 4, 5, 6, 7, 8, 9, 10, 11, 12, 13] (fun a0_ b a w' => ∃ (gb163 : Nat) (gb164 : Nat) (m9_ : Value) (m10_ : Value), a = putSel a0_ b [(0, 12, .agg #[.int .i64 a0_0, .int .i64 a0_1]), (1, 13, .agg #[.int .i64 t154, .int .i64 t155]), (2, 14, .agg #[.int .i64 a1_0, .int .i64 a1_1]), (3, 15, .agg #[.int .i64 t156, .int .i64 t157]), (4, 16, .tuple #[.agg #[.int .i64 t158, .int .i64 t159], .agg #[.int .i64 t160, .int .i64 t161], .bool t162]), (5, 11, .tuple #[.agg #[.int .i64 t158, .int .i64 t159], .agg #[.int .i64 t160, .int .i64 t161], .bool t162]), (6, 17, .agg #[.int .i64 t158, .int .i64 t159]), (7, 18, .agg #[.int .i64 t160, .int .i64 t161]), (8, 19, .bool t162), (9, 5, m9_), (10, 6, m10_), (13, 7, .bool t162)] ∧ (w'.heap[gb152]? = some (.cells #[.int .i64 a0_0, .int .i64 a0_1] 29 (0, 0))) ∧ (w'.heap[gb153]? = some (.cells #[.int .i64 a1_0, .int .i64 a1_1] 29 (0, 0))) ∧ (Below w.heap.size w w') ∧ (b 9 = true → b 10 = true → gb164 ≠ gb163) ∧ (b 9 = true → b 10 = true → gb163 ≠ gb164) ∧ (b 9 = true → b 11 = false → w'.heap[gb163]? = some (.cells #[.int .i64 0, .int .i64 0] 31 (0, 0))) ∧ (b 9 = true → w.heap.size ≤ gb163) ∧ (b 9 = true → w.heap.size ≤ gb163) ∧ (b 9 = true → gb152 ≠ gb163) ∧ (b 9 = true → gb163 ≠ gb152) ∧ (b 9 = true → gb153 ≠ gb163) ∧ (b 9 = true → gb163 ≠ gb153) ∧ (b 10 = true → b 12 = false → w'.heap[gb164]? = some (.cells #[.int .i64 0, .int .i64 0] 31 (0, 0))) ∧ (b 10 = true → w.heap.size ≤ gb164) ∧ (b 10 = true → w.heap.size ≤ gb164) ∧ (b 10 = true → gb152 ≠ gb164) ∧ (b 10 = true → gb164 ≠ gb152) ∧ (b 10 = true → gb153 ≠ gb164) ∧ (b 10 = true → gb164 ≠ gb153) ∧ (b 11 = true → w'.heap[gb163]? = some (.cells #[.int .i64 t158, .int .i64 t159] 31 (0, 0))) ∧ (b 12 = true → w'.heap[gb164]? = some (.cells #[.int .i64 t160, .int .i64 t161] 31 (0, 0))) ∧ (b 9 = true → (m9_ : Value) = .pointer (some ⟨gb163, 0, none⟩)) ∧ (b 10 = true → (m10_ : Value) = .pointer (some ⟨gb164, 0, none⟩))) HT_.out HW_.out (by kernel_rfl) (by kernel_rfl) ?_ ?_ ?_
        · exact ⟨0, 0, .bool false, .bool false, by simp only [putSel, Bool.false_eq_true, if_false], BK152.out, BK153.out, HB.out, fun h_ => absurd h_ (by decide), fun h_ => absurd h_ (by decide), fun h_ => absurd h_ (by decide), fun h_ => absurd h_ (by decide), fun h_ => absurd h_ (by decide), fun h_ => absurd h_ (by decide), fun h_ => absurd h_ (by decide), fun h_ => absurd h_ (by decide), fun h_ => absurd h_ (by decide), fun h_ => absurd h_ (by decide), fun h_ => absurd h_ (by decide), fun h_ => absurd h_ (by decide), fun h_ => absurd h_ (by decide), fun h_ => absurd h_ (by decide), fun h_ => absurd h_ (by decide), fun h_ => absurd h_ (by decide), fun h_ => absurd h_ (by decide), fun h_ => absurd h_ (by decide), fun h_ => absurd h_ (by decide), fun h_ => absurd h_ (by decide)⟩
        · skip
          clear BK152 BK153 HB
          refine steps_cons ?_ ?_
          · rintro b a w' ⟨gb163, gb164, m9_, m10_, ha, Q_BK152, Q_BK153, Q_HB, Q_NB164_163, Q_NB163_164, Q_BK163, Q_GW163, Q_GE163, Q_NB152_163, Q_NB163_152, Q_NB153_163, Q_NB163_153, Q_BK164, Q_GW164, Q_GE164, Q_NB152_164, Q_NB164_152, Q_NB153_164, Q_NB164_153, Q_BK163_e11, Q_BK164_e12, Q_X9_, Q_X10_⟩ hb_ hon hoff
            refine ⟨_, rfl, fun K hK => ?_⟩
            have e2 : a.tmps[2]? = some (.pointer (some ⟨gb152, 0, none⟩)) := by rw [ha]; exact (putSel_off rfl).trans rfl
            replace ha := Aside0.mk ha
            have BK152 := Aside0.mk Q_BK152
            have BK153 := Aside0.mk Q_BK153
            have HB := Aside0.mk Q_HB
            have hc0_ : w'.cell? ⟨gb152, 0, none⟩ = some (.int .i64 a0_0) := (blk_cell BK152.out 0).trans rfl
            have hc1_ : w'.cell? ⟨gb152, 1, none⟩ = some (.int .i64 a0_1) := (blk_cell BK152.out 1).trans rfl
            refine value_ (w1 := w') (v := .agg #[.int .i64 a0_0, .int .i64 a0_1]) (by rfl) rfl ?_ ?_
            · go_simp
              (try simp only [i64_w])
              try rfl
            refine hK.out _ _ ⟨gb163, gb164, m9_, m10_, (by rw [ha.out]; exact putSel_upk 0 hb_ rfl rfl rfl), Q_BK152, Q_BK153, Q_HB, Q_NB164_163, Q_NB163_164, Q_BK163, Q_GW163, Q_GE163, Q_NB152_163, Q_NB163_152, Q_NB153_163, Q_NB163_153, Q_BK164, Q_GW164, Q_GE164, Q_NB152_164, Q_NB164_152, Q_NB153_164, Q_NB164_153, fun h0_ => absurd ((hoff 11 (by kernel_rfl)).symm.trans h0_) (by decide), fun h0_ => absurd ((hoff 12 (by kernel_rfl)).symm.trans h0_) (by decide), Q_X9_, Q_X10_⟩
          refine steps_cons ?_ ?_
          · rintro b a w' ⟨gb163, gb164, m9_, m10_, ha, Q_BK152, Q_BK153, Q_HB, Q_NB164_163, Q_NB163_164, Q_BK163, Q_GW163, Q_GE163, Q_NB152_163, Q_NB163_152, Q_NB153_163, Q_NB163_153, Q_BK164, Q_GW164, Q_GE164, Q_NB152_164, Q_NB164_152, Q_NB153_164, Q_NB164_153, Q_BK163_e11, Q_BK164_e12, Q_X9_, Q_X10_⟩ hb_ hon hoff
            refine ⟨_, rfl, fun K hK => ?_⟩
            have e12 : a.tmps[12]? = some (.agg #[.int .i64 a0_0, .int .i64 a0_1]) := by rw [ha]; exact putSel_on (e := (0, 12, .agg #[.int .i64 a0_0, .int .i64 a0_1])) 0 rfl rfl (hon 0 (by kernel_rfl)) rfl
            replace ha := Aside0.mk ha
            have BK152 := Aside0.mk Q_BK152
            have BK153 := Aside0.mk Q_BK153
            have HB := Aside0.mk Q_HB
            refine goes_ Try.func19 (by kernel_rfl) rfl #[.agg #[.int .i64 a0_0, .int .i64 a0_1]] (by rfl) rfl rfl (by first | (simp only [List.map_toArray, List.map_cons, List.map_nil, Act.eval, Array.getD_eq_getD_getElem?, Option.getD_some, e12]; done) | (simp only [List.map_toArray, List.map_cons, List.map_nil, Act.eval, Array.getD_eq_getD_getElem?, Option.getD_some, e12]; rfl)) ?_
            with_reducible refine (laws_toStretch.calls a0_0 a0_1 t154 t155 _ A3.out).mono ?_
            rintro e w17 ⟨rfl, hb⟩
            refine ⟨_, rfl, ?_⟩
            have n0_ := Aside0.mk (blk_below (g := gb152) (o := .cells #[.int .i64 a0_0, .int .i64 a0_1] 29 (0, 0)) (by (with_reducible repeat (first | refine blk_drewN ?_ _ | refine blk_drew ?_ | refine blk_alloc ?_ _)); exact BK152.out) hb)
            have n1_ := Aside0.mk (blk_below (g := gb153) (o := .cells #[.int .i64 a1_0, .int .i64 a1_1] 29 (0, 0)) (by (with_reducible repeat (first | refine blk_drewN ?_ _ | refine blk_drew ?_ | refine blk_alloc ?_ _)); exact BK153.out) hb)
            have n2_ := Aside0.mk (below_step (by repeat (first | (with_reducible first | exact HB.out | apply below_alloc | apply pw_below_drewN | apply below_drew1 | refine below_set ?_ GE152.out | refine below_set ?_ GE153.out) | exact HB.out)) hb)
            have z_BK163 := fun (h0_ : b 9 = true) (h1_ : b 11 = false) => (show w17.heap[gb163]? = some (.cells #[.int .i64 0, .int .i64 0] 31 (0, 0)) from by first | exact (blk_below (g := gb163) (o := .cells #[.int .i64 0, .int .i64 0] 31 (0, 0)) (by (with_reducible repeat (first | refine blk_drewN ?_ _ | refine blk_drew ?_ | refine blk_alloc ?_ _)); exact (Q_BK163 h0_ h1_)) hb))
            have z_BK164 := fun (h0_ : b 10 = true) (h1_ : b 12 = false) => (show w17.heap[gb164]? = some (.cells #[.int .i64 0, .int .i64 0] 31 (0, 0)) from by first | exact (blk_below (g := gb164) (o := .cells #[.int .i64 0, .int .i64 0] 31 (0, 0)) (by (with_reducible repeat (first | refine blk_drewN ?_ _ | refine blk_drew ?_ | refine blk_alloc ?_ _)); exact (Q_BK164 h0_ h1_)) hb))
            clear BK152
            clear BK153
            clear HB
            have BK152 := n0_
            have BK153 := n1_
            have HB := n2_
            clear n0_ n1_ n2_
            (try clear hb)
            (try clear hb2)
            (try clear hk)
            (try clear hi)
            refine hK.out _ _ ⟨gb163, gb164, m9_, m10_, (by rw [ha.out]; exact putSel_upk 1 hb_ rfl rfl rfl), (by (with_reducible repeat (first | refine blk_drewN ?_ _ | refine blk_drew ?_ | refine blk_alloc ?_ _)); exact BK152.out), (by (with_reducible repeat (first | refine blk_drewN ?_ _ | refine blk_drew ?_ | refine blk_alloc ?_ _)); exact BK153.out), (by repeat (first | (with_reducible first | exact HB.out | apply below_alloc | apply pw_below_drewN | apply below_drew1 | refine below_set ?_ GE152.out | refine below_set ?_ GE153.out) | exact HB.out)), Q_NB164_163, Q_NB163_164, z_BK163, Q_GW163, Q_GE163, Q_NB152_163, Q_NB163_152, Q_NB153_163, Q_NB163_153, z_BK164, Q_GW164, Q_GE164, Q_NB152_164, Q_NB164_152, Q_NB153_164, Q_NB164_153, fun h0_ => absurd ((hoff 11 (by kernel_rfl)).symm.trans h0_) (by decide), fun h0_ => absurd ((hoff 12 (by kernel_rfl)).symm.trans h0_) (by decide), Q_X9_, Q_X10_⟩
          refine steps_cons ?_ ?_
          · rintro b a w' ⟨gb163, gb164, m9_, m10_, ha, Q_BK152, Q_BK153, Q_HB, Q_NB164_163, Q_NB163_164, Q_BK163, Q_GW163, Q_GE163, Q_NB152_163, Q_NB163_152, Q_NB153_163, Q_NB163_153, Q_BK164, Q_GW164, Q_GE164, Q_NB152_164, Q_NB164_152, Q_NB153_164, Q_NB164_153, Q_BK163_e11, Q_BK164_e12, Q_X9_, Q_X10_⟩ hb_ hon hoff
            refine ⟨_, rfl, fun K hK => ?_⟩
            have e3 : a.tmps[3]? = some (.pointer (some ⟨gb153, 0, none⟩)) := by rw [ha]; exact (putSel_off rfl).trans rfl
            replace ha := Aside0.mk ha
            have BK152 := Aside0.mk Q_BK152
            have BK153 := Aside0.mk Q_BK153
            have HB := Aside0.mk Q_HB
            have hc0_ : w'.cell? ⟨gb153, 0, none⟩ = some (.int .i64 a1_0) := (blk_cell BK153.out 0).trans rfl
            have hc1_ : w'.cell? ⟨gb153, 1, none⟩ = some (.int .i64 a1_1) := (blk_cell BK153.out 1).trans rfl
            refine value_ (w1 := w') (v := .agg #[.int .i64 a1_0, .int .i64 a1_1]) (by rfl) rfl ?_ ?_
            · go_simp
              (try simp only [i64_w])
              try rfl
            refine hK.out _ _ ⟨gb163, gb164, m9_, m10_, (by rw [ha.out]; exact putSel_upk 2 hb_ rfl rfl rfl), Q_BK152, Q_BK153, Q_HB, Q_NB164_163, Q_NB163_164, Q_BK163, Q_GW163, Q_GE163, Q_NB152_163, Q_NB163_152, Q_NB153_163, Q_NB163_153, Q_BK164, Q_GW164, Q_GE164, Q_NB152_164, Q_NB164_152, Q_NB153_164, Q_NB164_153, fun h0_ => absurd ((hoff 11 (by kernel_rfl)).symm.trans h0_) (by decide), fun h0_ => absurd ((hoff 12 (by kernel_rfl)).symm.trans h0_) (by decide), Q_X9_, Q_X10_⟩
          refine steps_cons ?_ ?_
          · rintro b a w' ⟨gb163, gb164, m9_, m10_, ha, Q_BK152, Q_BK153, Q_HB, Q_NB164_163, Q_NB163_164, Q_BK163, Q_GW163, Q_GE163, Q_NB152_163, Q_NB163_152, Q_NB153_163, Q_NB163_153, Q_BK164, Q_GW164, Q_GE164, Q_NB152_164, Q_NB164_152, Q_NB153_164, Q_NB164_153, Q_BK163_e11, Q_BK164_e12, Q_X9_, Q_X10_⟩ hb_ hon hoff
            refine ⟨_, rfl, fun K hK => ?_⟩
            have e14 : a.tmps[14]? = some (.agg #[.int .i64 a1_0, .int .i64 a1_1]) := by rw [ha]; exact putSel_on (e := (2, 14, .agg #[.int .i64 a1_0, .int .i64 a1_1])) 2 rfl rfl (hon 2 (by kernel_rfl)) rfl
            replace ha := Aside0.mk ha
            have BK152 := Aside0.mk Q_BK152
            have BK153 := Aside0.mk Q_BK153
            have HB := Aside0.mk Q_HB
            refine goes_ Try.func19 (by kernel_rfl) rfl #[.agg #[.int .i64 a1_0, .int .i64 a1_1]] (by rfl) rfl rfl (by first | (simp only [List.map_toArray, List.map_cons, List.map_nil, Act.eval, Array.getD_eq_getD_getElem?, Option.getD_some, e14]; done) | (simp only [List.map_toArray, List.map_cons, List.map_nil, Act.eval, Array.getD_eq_getD_getElem?, Option.getD_some, e14]; rfl)) ?_
            with_reducible refine (laws_toStretch.calls a1_0 a1_1 t156 t157 _ A4.out).mono ?_
            rintro e w19 ⟨rfl, hb⟩
            refine ⟨_, rfl, ?_⟩
            have n0_ := Aside0.mk (blk_below (g := gb152) (o := .cells #[.int .i64 a0_0, .int .i64 a0_1] 29 (0, 0)) (by (with_reducible repeat (first | refine blk_drewN ?_ _ | refine blk_drew ?_ | refine blk_alloc ?_ _)); exact BK152.out) hb)
            have n1_ := Aside0.mk (blk_below (g := gb153) (o := .cells #[.int .i64 a1_0, .int .i64 a1_1] 29 (0, 0)) (by (with_reducible repeat (first | refine blk_drewN ?_ _ | refine blk_drew ?_ | refine blk_alloc ?_ _)); exact BK153.out) hb)
            have n2_ := Aside0.mk (below_step (by repeat (first | (with_reducible first | exact HB.out | apply below_alloc | apply pw_below_drewN | apply below_drew1 | refine below_set ?_ GE152.out | refine below_set ?_ GE153.out) | exact HB.out)) hb)
            have z_BK163 := fun (h0_ : b 9 = true) (h1_ : b 11 = false) => (show w19.heap[gb163]? = some (.cells #[.int .i64 0, .int .i64 0] 31 (0, 0)) from by first | exact (blk_below (g := gb163) (o := .cells #[.int .i64 0, .int .i64 0] 31 (0, 0)) (by (with_reducible repeat (first | refine blk_drewN ?_ _ | refine blk_drew ?_ | refine blk_alloc ?_ _)); exact (Q_BK163 h0_ h1_)) hb))
            have z_BK164 := fun (h0_ : b 10 = true) (h1_ : b 12 = false) => (show w19.heap[gb164]? = some (.cells #[.int .i64 0, .int .i64 0] 31 (0, 0)) from by first | exact (blk_below (g := gb164) (o := .cells #[.int .i64 0, .int .i64 0] 31 (0, 0)) (by (with_reducible repeat (first | refine blk_drewN ?_ _ | refine blk_drew ?_ | refine blk_alloc ?_ _)); exact (Q_BK164 h0_ h1_)) hb))
            clear BK152
            clear BK153
            clear HB
            have BK152 := n0_
            have BK153 := n1_
            have HB := n2_
            clear n0_ n1_ n2_
            (try clear hb)
            (try clear hb2)
            (try clear hk)
            (try clear hi)
            refine hK.out _ _ ⟨gb163, gb164, m9_, m10_, (by rw [ha.out]; exact putSel_upk 3 hb_ rfl rfl rfl), (by (with_reducible repeat (first | refine blk_drewN ?_ _ | refine blk_drew ?_ | refine blk_alloc ?_ _)); exact BK152.out), (by (with_reducible repeat (first | refine blk_drewN ?_ _ | refine blk_drew ?_ | refine blk_alloc ?_ _)); exact BK153.out), (by repeat (first | (with_reducible first | exact HB.out | apply below_alloc | apply pw_below_drewN | apply below_drew1 | refine below_set ?_ GE152.out | refine below_set ?_ GE153.out) | exact HB.out)), Q_NB164_163, Q_NB163_164, z_BK163, Q_GW163, Q_GE163, Q_NB152_163, Q_NB163_152, Q_NB153_163, Q_NB163_153, z_BK164, Q_GW164, Q_GE164, Q_NB152_164, Q_NB164_152, Q_NB153_164, Q_NB164_153, fun h0_ => absurd ((hoff 11 (by kernel_rfl)).symm.trans h0_) (by decide), fun h0_ => absurd ((hoff 12 (by kernel_rfl)).symm.trans h0_) (by decide), Q_X9_, Q_X10_⟩
          refine steps_cons ?_ ?_
          · rintro b a w' ⟨gb163, gb164, m9_, m10_, ha, Q_BK152, Q_BK153, Q_HB, Q_NB164_163, Q_NB163_164, Q_BK163, Q_GW163, Q_GE163, Q_NB152_163, Q_NB163_152, Q_NB153_163, Q_NB163_153, Q_BK164, Q_GW164, Q_GE164, Q_NB152_164, Q_NB164_152, Q_NB153_164, Q_NB164_153, Q_BK163_e11, Q_BK164_e12, Q_X9_, Q_X10_⟩ hb_ hon hoff
            refine ⟨_, rfl, fun K hK => ?_⟩
            have e13 : a.tmps[13]? = some (.agg #[.int .i64 t154, .int .i64 t155]) := by rw [ha]; exact putSel_on (e := (1, 13, .agg #[.int .i64 t154, .int .i64 t155])) 1 rfl rfl (hon 1 (by kernel_rfl)) rfl
            have e15 : a.tmps[15]? = some (.agg #[.int .i64 t156, .int .i64 t157]) := by rw [ha]; exact putSel_on (e := (3, 15, .agg #[.int .i64 t156, .int .i64 t157])) 3 rfl rfl (hon 3 (by kernel_rfl)) rfl
            replace ha := Aside0.mk ha
            have BK152 := Aside0.mk Q_BK152
            have BK153 := Aside0.mk Q_BK153
            have HB := Aside0.mk Q_HB
            refine goes_ Try.func37 (by kernel_rfl) rfl #[.agg #[.int .i64 t154, .int .i64 t155], .agg #[.int .i64 t156, .int .i64 t157]] (by rfl) rfl rfl (by first | (simp only [List.map_toArray, List.map_cons, List.map_nil, Act.eval, Array.getD_eq_getD_getElem?, Option.getD_some, e13, e15]; done) | (simp only [List.map_toArray, List.map_cons, List.map_nil, Act.eval, Array.getD_eq_getD_getElem?, Option.getD_some, e13, e15]; rfl)) ?_
            with_reducible refine (spec_SplitLess.calls t154 t155 t156 t157 t158 t159 t160 t161 t162 _ A5.out).mono ?_
            rintro e w20 ⟨rfl, hb⟩
            refine ⟨_, rfl, ?_⟩
            have n0_ := Aside0.mk (blk_below (g := gb152) (o := .cells #[.int .i64 a0_0, .int .i64 a0_1] 29 (0, 0)) (by (with_reducible repeat (first | refine blk_drewN ?_ _ | refine blk_drew ?_ | refine blk_alloc ?_ _)); exact BK152.out) hb)
            have n1_ := Aside0.mk (blk_below (g := gb153) (o := .cells #[.int .i64 a1_0, .int .i64 a1_1] 29 (0, 0)) (by (with_reducible repeat (first | refine blk_drewN ?_ _ | refine blk_drew ?_ | refine blk_alloc ?_ _)); exact BK153.out) hb)
            have n2_ := Aside0.mk (below_step (by repeat (first | (with_reducible first | exact HB.out | apply below_alloc | apply pw_below_drewN | apply below_drew1 | refine below_set ?_ GE152.out | refine below_set ?_ GE153.out) | exact HB.out)) hb)
            have z_BK163 := fun (h0_ : b 9 = true) (h1_ : b 11 = false) => (show w20.heap[gb163]? = some (.cells #[.int .i64 0, .int .i64 0] 31 (0, 0)) from by first | exact (blk_below (g := gb163) (o := .cells #[.int .i64 0, .int .i64 0] 31 (0, 0)) (by (with_reducible repeat (first | refine blk_drewN ?_ _ | refine blk_drew ?_ | refine blk_alloc ?_ _)); exact (Q_BK163 h0_ h1_)) hb))
            have z_BK164 := fun (h0_ : b 10 = true) (h1_ : b 12 = false) => (show w20.heap[gb164]? = some (.cells #[.int .i64 0, .int .i64 0] 31 (0, 0)) from by first | exact (blk_below (g := gb164) (o := .cells #[.int .i64 0, .int .i64 0] 31 (0, 0)) (by (with_reducible repeat (first | refine blk_drewN ?_ _ | refine blk_drew ?_ | refine blk_alloc ?_ _)); exact (Q_BK164 h0_ h1_)) hb))
            clear BK152
            clear BK153
            clear HB
            have BK152 := n0_
            have BK153 := n1_
            have HB := n2_
            clear n0_ n1_ n2_
            (try clear hb)
            (try clear hb2)
            (try clear hk)
            (try clear hi)
            refine hK.out _ _ ⟨gb163, gb164, m9_, m10_, (by rw [ha.out]; exact putSel_upk 4 hb_ rfl rfl rfl), (by (with_reducible repeat (first | refine blk_drewN ?_ _ | refine blk_drew ?_ | refine blk_alloc ?_ _)); exact BK152.out), (by (with_reducible repeat (first | refine blk_drewN ?_ _ | refine blk_drew ?_ | refine blk_alloc ?_ _)); exact BK153.out), (by repeat (first | (with_reducible first | exact HB.out | apply below_alloc | apply pw_below_drewN | apply below_drew1 | refine below_set ?_ GE152.out | refine below_set ?_ GE153.out) | exact HB.out)), Q_NB164_163, Q_NB163_164, z_BK163, Q_GW163, Q_GE163, Q_NB152_163, Q_NB163_152, Q_NB153_163, Q_NB163_153, z_BK164, Q_GW164, Q_GE164, Q_NB152_164, Q_NB164_152, Q_NB153_164, Q_NB164_153, fun h0_ => absurd ((hoff 11 (by kernel_rfl)).symm.trans h0_) (by decide), fun h0_ => absurd ((hoff 12 (by kernel_rfl)).symm.trans h0_) (by decide), Q_X9_, Q_X10_⟩
          refine steps_cons ?_ ?_
          · rintro b a w' ⟨gb163, gb164, m9_, m10_, ha, Q_BK152, Q_BK153, Q_HB, Q_NB164_163, Q_NB163_164, Q_BK163, Q_GW163, Q_GE163, Q_NB152_163, Q_NB163_152, Q_NB153_163, Q_NB163_153, Q_BK164, Q_GW164, Q_GE164, Q_NB152_164, Q_NB164_152, Q_NB153_164, Q_NB164_153, Q_BK163_e11, Q_BK164_e12, Q_X9_, Q_X10_⟩ hb_ hon hoff
            refine ⟨_, rfl, fun K hK => ?_⟩
            have e16 : a.tmps[16]? = some (.tuple #[.agg #[.int .i64 t158, .int .i64 t159], .agg #[.int .i64 t160, .int .i64 t161], .bool t162]) := by rw [ha]; exact putSel_on (e := (4, 16, .tuple #[.agg #[.int .i64 t158, .int .i64 t159], .agg #[.int .i64 t160, .int .i64 t161], .bool t162])) 4 rfl rfl (hon 4 (by kernel_rfl)) rfl
            replace ha := Aside0.mk ha
            have BK152 := Aside0.mk Q_BK152
            have BK153 := Aside0.mk Q_BK153
            have HB := Aside0.mk Q_HB
            refine value_ (w1 := w') (v := .tuple #[.agg #[.int .i64 t158, .int .i64 t159], .agg #[.int .i64 t160, .int .i64 t161], .bool t162]) (by rfl) rfl ?_ ?_
            · go_simp
              (try simp only [i64_w])
              try rfl
            refine hK.out _ _ ⟨gb163, gb164, m9_, m10_, (by rw [ha.out]; exact putSel_upk 5 hb_ rfl rfl rfl), Q_BK152, Q_BK153, Q_HB, Q_NB164_163, Q_NB163_164, Q_BK163, Q_GW163, Q_GE163, Q_NB152_163, Q_NB163_152, Q_NB153_163, Q_NB163_153, Q_BK164, Q_GW164, Q_GE164, Q_NB152_164, Q_NB164_152, Q_NB153_164, Q_NB164_153, fun h0_ => absurd ((hoff 11 (by kernel_rfl)).symm.trans h0_) (by decide), fun h0_ => absurd ((hoff 12 (by kernel_rfl)).symm.trans h0_) (by decide), Q_X9_, Q_X10_⟩
          refine steps_cons ?_ ?_
          · rintro b a w' ⟨gb163, gb164, m9_, m10_, ha, Q_BK152, Q_BK153, Q_HB, Q_NB164_163, Q_NB163_164, Q_BK163, Q_GW163, Q_GE163, Q_NB152_163, Q_NB163_152, Q_NB153_163, Q_NB163_153, Q_BK164, Q_GW164, Q_GE164, Q_NB152_164, Q_NB164_152, Q_NB153_164, Q_NB164_153, Q_BK163_e11, Q_BK164_e12, Q_X9_, Q_X10_⟩ hb_ hon hoff
            refine ⟨_, rfl, fun K hK => ?_⟩
            have e11 : a.tmps[11]? = some (.tuple #[.agg #[.int .i64 t158, .int .i64 t159], .agg #[.int .i64 t160, .int .i64 t161], .bool t162]) := by rw [ha]; exact putSel_on (e := (5, 11, .tuple #[.agg #[.int .i64 t158, .int .i64 t159], .agg #[.int .i64 t160, .int .i64 t161], .bool t162])) 5 rfl rfl (hon 5 (by kernel_rfl)) rfl
            replace ha := Aside0.mk ha
            have BK152 := Aside0.mk Q_BK152
            have BK153 := Aside0.mk Q_BK153
            have HB := Aside0.mk Q_HB
            refine value_ (w1 := w') (v := .agg #[.int .i64 t158, .int .i64 t159]) (by rfl) rfl ?_ ?_
            · go_simp
              (try simp only [i64_w])
              try rfl
            refine hK.out _ _ ⟨gb163, gb164, m9_, m10_, (by rw [ha.out]; exact putSel_upk 6 hb_ rfl rfl rfl), Q_BK152, Q_BK153, Q_HB, Q_NB164_163, Q_NB163_164, Q_BK163, Q_GW163, Q_GE163, Q_NB152_163, Q_NB163_152, Q_NB153_163, Q_NB163_153, Q_BK164, Q_GW164, Q_GE164, Q_NB152_164, Q_NB164_152, Q_NB153_164, Q_NB164_153, fun h0_ => absurd ((hoff 11 (by kernel_rfl)).symm.trans h0_) (by decide), fun h0_ => absurd ((hoff 12 (by kernel_rfl)).symm.trans h0_) (by decide), Q_X9_, Q_X10_⟩
          refine steps_cons ?_ ?_
          · rintro b a w' ⟨gb163, gb164, m9_, m10_, ha, Q_BK152, Q_BK153, Q_HB, Q_NB164_163, Q_NB163_164, Q_BK163, Q_GW163, Q_GE163, Q_NB152_163, Q_NB163_152, Q_NB153_163, Q_NB163_153, Q_BK164, Q_GW164, Q_GE164, Q_NB152_164, Q_NB164_152, Q_NB153_164, Q_NB164_153, Q_BK163_e11, Q_BK164_e12, Q_X9_, Q_X10_⟩ hb_ hon hoff
            refine ⟨_, rfl, fun K hK => ?_⟩
            have e11 : a.tmps[11]? = some (.tuple #[.agg #[.int .i64 t158, .int .i64 t159], .agg #[.int .i64 t160, .int .i64 t161], .bool t162]) := by rw [ha]; exact putSel_on (e := (5, 11, .tuple #[.agg #[.int .i64 t158, .int .i64 t159], .agg #[.int .i64 t160, .int .i64 t161], .bool t162])) 5 rfl rfl (hon 5 (by kernel_rfl)) rfl
            replace ha := Aside0.mk ha
            have BK152 := Aside0.mk Q_BK152
            have BK153 := Aside0.mk Q_BK153
            have HB := Aside0.mk Q_HB
            refine value_ (w1 := w') (v := .agg #[.int .i64 t160, .int .i64 t161]) (by rfl) rfl ?_ ?_
            · go_simp
              (try simp only [i64_w])
              try rfl
            refine hK.out _ _ ⟨gb163, gb164, m9_, m10_, (by rw [ha.out]; exact putSel_upk 7 hb_ rfl rfl rfl), Q_BK152, Q_BK153, Q_HB, Q_NB164_163, Q_NB163_164, Q_BK163, Q_GW163, Q_GE163, Q_NB152_163, Q_NB163_152, Q_NB153_163, Q_NB163_153, Q_BK164, Q_GW164, Q_GE164, Q_NB152_164, Q_NB164_152, Q_NB153_164, Q_NB164_153, Q_BK163_e11, fun h0_ => absurd ((hoff 12 (by kernel_rfl)).symm.trans h0_) (by decide), Q_X9_, Q_X10_⟩
          refine steps_cons ?_ ?_
          · rintro b a w' ⟨gb163, gb164, m9_, m10_, ha, Q_BK152, Q_BK153, Q_HB, Q_NB164_163, Q_NB163_164, Q_BK163, Q_GW163, Q_GE163, Q_NB152_163, Q_NB163_152, Q_NB153_163, Q_NB163_153, Q_BK164, Q_GW164, Q_GE164, Q_NB152_164, Q_NB164_152, Q_NB153_164, Q_NB164_153, Q_BK163_e11, Q_BK164_e12, Q_X9_, Q_X10_⟩ hb_ hon hoff
            refine ⟨_, rfl, fun K hK => ?_⟩
            have e11 : a.tmps[11]? = some (.tuple #[.agg #[.int .i64 t158, .int .i64 t159], .agg #[.int .i64 t160, .int .i64 t161], .bool t162]) := by rw [ha]; exact putSel_on (e := (5, 11, .tuple #[.agg #[.int .i64 t158, .int .i64 t159], .agg #[.int .i64 t160, .int .i64 t161], .bool t162])) 5 rfl rfl (hon 5 (by kernel_rfl)) rfl
            replace ha := Aside0.mk ha
            have BK152 := Aside0.mk Q_BK152
            have BK153 := Aside0.mk Q_BK153
            have HB := Aside0.mk Q_HB
            refine value_ (w1 := w') (v := .bool t162) (by rfl) rfl ?_ ?_
            · go_simp
              (try simp only [i64_w])
              try rfl
            refine hK.out _ _ ⟨gb163, gb164, m9_, m10_, (by rw [ha.out]; exact putSel_upk 8 hb_ rfl rfl rfl), Q_BK152, Q_BK153, Q_HB, Q_NB164_163, Q_NB163_164, Q_BK163, Q_GW163, Q_GE163, Q_NB152_163, Q_NB163_152, Q_NB153_163, Q_NB163_153, Q_BK164, Q_GW164, Q_GE164, Q_NB152_164, Q_NB164_152, Q_NB153_164, Q_NB164_153, Q_BK163_e11, Q_BK164_e12, Q_X9_, Q_X10_⟩
          refine steps_cons ?_ ?_
          · rintro b a w' ⟨gb163, gb164, m9_, m10_, ha, Q_BK152, Q_BK153, Q_HB, Q_NB164_163, Q_NB163_164, Q_BK163, Q_GW163, Q_GE163, Q_NB152_163, Q_NB163_152, Q_NB153_163, Q_NB163_153, Q_BK164, Q_GW164, Q_GE164, Q_NB152_164, Q_NB164_152, Q_NB153_164, Q_NB164_153, Q_BK163_e11, Q_BK164_e12, Q_X9_, Q_X10_⟩ hb_ hon hoff
            refine ⟨_, rfl, fun K hK => ?_⟩
            replace ha := Aside0.mk ha
            have BK152 := Aside0.mk Q_BK152
            have BK153 := Aside0.mk Q_BK153
            have HB := Aside0.mk Q_HB
            refine box_step ?hg (N := 5) ?hd (cs := #[.int .i64 0, .int .i64 0]) (t := 31) ?hr ?_; (case hd => rfl); (case hg => rfl); (case hr => first | (go_simp; done) | (go_simp; rfl))
            intro gb163 hg w17 hbox hb
            have n0_ := Aside0.mk (blk_below (g := gb152) (o := .cells #[.int .i64 a0_0, .int .i64 a0_1] 29 (0, 0)) (by (with_reducible repeat (first | refine blk_drewN ?_ _ | refine blk_drew ?_ | refine blk_alloc ?_ _)); exact BK152.out) hb)
            have n1_ := Aside0.mk (blk_below (g := gb153) (o := .cells #[.int .i64 a1_0, .int .i64 a1_1] 29 (0, 0)) (by (with_reducible repeat (first | refine blk_drewN ?_ _ | refine blk_drew ?_ | refine blk_alloc ?_ _)); exact BK153.out) hb)
            have n2_ := Aside0.mk (below_step (by repeat (first | (with_reducible first | exact HB.out | apply below_alloc | apply pw_below_drewN | apply below_drew1 | refine below_set ?_ GE152.out | refine below_set ?_ GE153.out) | exact HB.out)) hb)
            have n3_ := Aside0.mk (hbox)
            have n4_ := Aside0.mk ((by rw [hg]; exact (below_size (by repeat (first | (with_reducible first | exact HB.out | apply below_alloc | apply pw_below_drewN | apply below_drew1 | refine below_set ?_ GE152.out | refine below_set ?_ GE153.out) | exact HB.out))) : w.heap.size ≤ gb163))
            have n5_ := Aside0.mk ((by rw [hg]; exact (below_size (by repeat (first | (with_reducible first | exact HB.out | apply below_alloc | apply pw_below_drewN | apply below_drew1 | refine below_set ?_ GE152.out | refine below_set ?_ GE153.out) | exact HB.out))) : w.heap.size ≤ gb163))
            have n6_ := Aside0.mk ((by rw [hg]; exact Nat.ne_of_lt (blk_lt (g := gb152) (o := .cells #[.int .i64 a0_0, .int .i64 a0_1] 29 (0, 0)) (by (with_reducible repeat (first | refine blk_drewN ?_ _ | refine blk_drew ?_ | refine blk_alloc ?_ _)); exact BK152.out)) : gb152 ≠ gb163))
            have n7_ := Aside0.mk ((by rw [hg]; exact Nat.ne_of_gt (blk_lt (g := gb152) (o := .cells #[.int .i64 a0_0, .int .i64 a0_1] 29 (0, 0)) (by (with_reducible repeat (first | refine blk_drewN ?_ _ | refine blk_drew ?_ | refine blk_alloc ?_ _)); exact BK152.out)) : gb163 ≠ gb152))
            have n8_ := Aside0.mk ((by rw [hg]; exact Nat.ne_of_lt (blk_lt (g := gb153) (o := .cells #[.int .i64 a1_0, .int .i64 a1_1] 29 (0, 0)) (by (with_reducible repeat (first | refine blk_drewN ?_ _ | refine blk_drew ?_ | refine blk_alloc ?_ _)); exact BK153.out)) : gb153 ≠ gb163))
            have n9_ := Aside0.mk ((by rw [hg]; exact Nat.ne_of_gt (blk_lt (g := gb153) (o := .cells #[.int .i64 a1_0, .int .i64 a1_1] 29 (0, 0)) (by (with_reducible repeat (first | refine blk_drewN ?_ _ | refine blk_drew ?_ | refine blk_alloc ?_ _)); exact BK153.out)) : gb163 ≠ gb153))
            have z_NB164_163 := fun (h0_ : up b 9 9 = true) (h1_ : up b 9 10 = true) => (show gb164 ≠ gb163 from ((by rw [hg]; exact Nat.ne_of_lt (blk_lt (g := gb164) (o := .cells #[.int .i64 0, .int .i64 0] 31 (0, 0)) (by (with_reducible repeat (first | refine blk_drewN ?_ _ | refine blk_drew ?_ | refine blk_alloc ?_ _)); exact (Q_BK164 h1_ (hoff 12 (by kernel_rfl))))) : gb164 ≠ gb163)))
            have z_NB163_164 := fun (h0_ : up b 9 9 = true) (h1_ : up b 9 10 = true) => (show gb163 ≠ gb164 from ((by rw [hg]; exact Nat.ne_of_gt (blk_lt (g := gb164) (o := .cells #[.int .i64 0, .int .i64 0] 31 (0, 0)) (by (with_reducible repeat (first | refine blk_drewN ?_ _ | refine blk_drew ?_ | refine blk_alloc ?_ _)); exact (Q_BK164 h1_ (hoff 12 (by kernel_rfl))))) : gb163 ≠ gb164)))
            have z_BK164 := fun (h0_ : b 10 = true) (h1_ : b 12 = false) => (show w17.heap[gb164]? = some (.cells #[.int .i64 0, .int .i64 0] 31 (0, 0)) from by first | exact (blk_below (g := gb164) (o := .cells #[.int .i64 0, .int .i64 0] 31 (0, 0)) (by (with_reducible repeat (first | refine blk_drewN ?_ _ | refine blk_drew ?_ | refine blk_alloc ?_ _)); exact (Q_BK164 h0_ h1_)) hb))
            clear BK152
            clear BK153
            clear HB
            have BK152 := n0_
            have BK153 := n1_
            have HB := n2_
            have BK163 := n3_
            have GW163 := n4_
            have GE163 := n5_
            have NB152_163 := n6_
            have NB163_152 := n7_
            have NB153_163 := n8_
            have NB163_153 := n9_
            clear n0_ n1_ n2_ n3_ n4_ n5_ n6_ n7_ n8_ n9_
            clear hb hbox hg
            refine hK.out _ _ ⟨gb163, gb164, (.pointer (some ⟨gb163, 0, none⟩)), m10_, (by rw [ha.out]; exact putSel_upk 9 hb_ rfl rfl rfl), (by (with_reducible repeat (first | refine blk_drewN ?_ _ | refine blk_drew ?_ | refine blk_alloc ?_ _)); exact BK152.out), (by (with_reducible repeat (first | refine blk_drewN ?_ _ | refine blk_drew ?_ | refine blk_alloc ?_ _)); exact BK153.out), (by repeat (first | (with_reducible first | exact HB.out | apply below_alloc | apply pw_below_drewN | apply below_drew1 | refine below_set ?_ GE152.out | refine below_set ?_ GE153.out | refine below_set ?_ GE163.out) | exact HB.out)), z_NB164_163, z_NB163_164, fun _ _ => (by (with_reducible repeat (first | refine blk_drewN ?_ _ | refine blk_drew ?_ | refine blk_alloc ?_ _)); exact BK163.out), fun _ => GW163.out, fun _ => GE163.out, fun _ => NB152_163.out, fun _ => NB163_152.out, fun _ => NB153_163.out, fun _ => NB163_153.out, z_BK164, Q_GW164, Q_GE164, Q_NB152_164, Q_NB164_152, Q_NB153_164, Q_NB164_153, fun h0_ => absurd ((hoff 11 (by kernel_rfl)).symm.trans h0_) (by decide), fun h0_ => absurd ((hoff 12 (by kernel_rfl)).symm.trans h0_) (by decide), fun _ => rfl, Q_X10_⟩
          refine steps_cons ?_ ?_
          · rintro b a w' ⟨gb163, gb164, m9_, m10_, ha, Q_BK152, Q_BK153, Q_HB, Q_NB164_163, Q_NB163_164, Q_BK163, Q_GW163, Q_GE163, Q_NB152_163, Q_NB163_152, Q_NB153_163, Q_NB163_153, Q_BK164, Q_GW164, Q_GE164, Q_NB152_164, Q_NB164_152, Q_NB153_164, Q_NB164_153, Q_BK163_e11, Q_BK164_e12, Q_X9_, Q_X10_⟩ hb_ hon hoff
            refine ⟨_, rfl, fun K hK => ?_⟩
            replace ha := Aside0.mk ha
            have BK152 := Aside0.mk Q_BK152
            have BK153 := Aside0.mk Q_BK153
            have HB := Aside0.mk Q_HB
            refine box_step ?hg (N := 6) ?hd (cs := #[.int .i64 0, .int .i64 0]) (t := 31) ?hr ?_; (case hd => rfl); (case hg => rfl); (case hr => first | (go_simp; done) | (go_simp; rfl))
            intro gb164 hg w17 hbox hb
            have n0_ := Aside0.mk (blk_below (g := gb152) (o := .cells #[.int .i64 a0_0, .int .i64 a0_1] 29 (0, 0)) (by (with_reducible repeat (first | refine blk_drewN ?_ _ | refine blk_drew ?_ | refine blk_alloc ?_ _)); exact BK152.out) hb)
            have n1_ := Aside0.mk (blk_below (g := gb153) (o := .cells #[.int .i64 a1_0, .int .i64 a1_1] 29 (0, 0)) (by (with_reducible repeat (first | refine blk_drewN ?_ _ | refine blk_drew ?_ | refine blk_alloc ?_ _)); exact BK153.out) hb)
            have n2_ := Aside0.mk (below_step (by repeat (first | (with_reducible first | exact HB.out | apply below_alloc | apply pw_below_drewN | apply below_drew1 | refine below_set ?_ GE152.out | refine below_set ?_ GE153.out) | exact HB.out)) hb)
            have n3_ := Aside0.mk (hbox)
            have n4_ := Aside0.mk ((by rw [hg]; exact (below_size (by repeat (first | (with_reducible first | exact HB.out | apply below_alloc | apply pw_below_drewN | apply below_drew1 | refine below_set ?_ GE152.out | refine below_set ?_ GE153.out) | exact HB.out))) : w.heap.size ≤ gb164))
            have n5_ := Aside0.mk ((by rw [hg]; exact (below_size (by repeat (first | (with_reducible first | exact HB.out | apply below_alloc | apply pw_below_drewN | apply below_drew1 | refine below_set ?_ GE152.out | refine below_set ?_ GE153.out) | exact HB.out))) : w.heap.size ≤ gb164))
            have n6_ := Aside0.mk ((by rw [hg]; exact Nat.ne_of_lt (blk_lt (g := gb152) (o := .cells #[.int .i64 a0_0, .int .i64 a0_1] 29 (0, 0)) (by (with_reducible repeat (first | refine blk_drewN ?_ _ | refine blk_drew ?_ | refine blk_alloc ?_ _)); exact BK152.out)) : gb152 ≠ gb164))
            have n7_ := Aside0.mk ((by rw [hg]; exact Nat.ne_of_gt (blk_lt (g := gb152) (o := .cells #[.int .i64 a0_0, .int .i64 a0_1] 29 (0, 0)) (by (with_reducible repeat (first | refine blk_drewN ?_ _ | refine blk_drew ?_ | refine blk_alloc ?_ _)); exact BK152.out)) : gb164 ≠ gb152))
            have n8_ := Aside0.mk ((by rw [hg]; exact Nat.ne_of_lt (blk_lt (g := gb153) (o := .cells #[.int .i64 a1_0, .int .i64 a1_1] 29 (0, 0)) (by (with_reducible repeat (first | refine blk_drewN ?_ _ | refine blk_drew ?_ | refine blk_alloc ?_ _)); exact BK153.out)) : gb153 ≠ gb164))
            have n9_ := Aside0.mk ((by rw [hg]; exact Nat.ne_of_gt (blk_lt (g := gb153) (o := .cells #[.int .i64 a1_0, .int .i64 a1_1] 29 (0, 0)) (by (with_reducible repeat (first | refine blk_drewN ?_ _ | refine blk_drew ?_ | refine blk_alloc ?_ _)); exact BK153.out)) : gb164 ≠ gb153))
            have z_NB164_163 := fun (h0_ : up b 10 9 = true) (h1_ : up b 10 10 = true) => (show gb164 ≠ gb163 from ((by rw [hg]; exact Nat.ne_of_gt (blk_lt (g := gb163) (o := .cells #[.int .i64 0, .int .i64 0] 31 (0, 0)) (by (with_reducible repeat (first | refine blk_drewN ?_ _ | refine blk_drew ?_ | refine blk_alloc ?_ _)); exact (Q_BK163 h0_ (hoff 11 (by kernel_rfl))))) : gb164 ≠ gb163)))
            have z_NB163_164 := fun (h0_ : up b 10 9 = true) (h1_ : up b 10 10 = true) => (show gb163 ≠ gb164 from ((by rw [hg]; exact Nat.ne_of_lt (blk_lt (g := gb163) (o := .cells #[.int .i64 0, .int .i64 0] 31 (0, 0)) (by (with_reducible repeat (first | refine blk_drewN ?_ _ | refine blk_drew ?_ | refine blk_alloc ?_ _)); exact (Q_BK163 h0_ (hoff 11 (by kernel_rfl))))) : gb163 ≠ gb164)))
            have z_BK163 := fun (h0_ : b 9 = true) (h1_ : b 11 = false) => (show w17.heap[gb163]? = some (.cells #[.int .i64 0, .int .i64 0] 31 (0, 0)) from by first | exact (blk_below (g := gb163) (o := .cells #[.int .i64 0, .int .i64 0] 31 (0, 0)) (by (with_reducible repeat (first | refine blk_drewN ?_ _ | refine blk_drew ?_ | refine blk_alloc ?_ _)); exact (Q_BK163 h0_ h1_)) hb))
            clear BK152
            clear BK153
            clear HB
            have BK152 := n0_
            have BK153 := n1_
            have HB := n2_
            have BK164 := n3_
            have GW164 := n4_
            have GE164 := n5_
            have NB152_164 := n6_
            have NB164_152 := n7_
            have NB153_164 := n8_
            have NB164_153 := n9_
            clear n0_ n1_ n2_ n3_ n4_ n5_ n6_ n7_ n8_ n9_
            clear hb hbox hg
            refine hK.out _ _ ⟨gb163, gb164, m9_, (.pointer (some ⟨gb164, 0, none⟩)), (by rw [ha.out]; exact putSel_upk 10 hb_ rfl rfl rfl), (by (with_reducible repeat (first | refine blk_drewN ?_ _ | refine blk_drew ?_ | refine blk_alloc ?_ _)); exact BK152.out), (by (with_reducible repeat (first | refine blk_drewN ?_ _ | refine blk_drew ?_ | refine blk_alloc ?_ _)); exact BK153.out), (by repeat (first | (with_reducible first | exact HB.out | apply below_alloc | apply pw_below_drewN | apply below_drew1 | refine below_set ?_ GE152.out | refine below_set ?_ GE153.out | refine below_set ?_ GE164.out) | exact HB.out)), z_NB164_163, z_NB163_164, z_BK163, Q_GW163, Q_GE163, Q_NB152_163, Q_NB163_152, Q_NB153_163, Q_NB163_153, fun _ _ => (by (with_reducible repeat (first | refine blk_drewN ?_ _ | refine blk_drew ?_ | refine blk_alloc ?_ _)); exact BK164.out), fun _ => GW164.out, fun _ => GE164.out, fun _ => NB152_164.out, fun _ => NB164_152.out, fun _ => NB153_164.out, fun _ => NB164_153.out, fun h0_ => absurd ((hoff 11 (by kernel_rfl)).symm.trans h0_) (by decide), fun h0_ => absurd ((hoff 12 (by kernel_rfl)).symm.trans h0_) (by decide), Q_X9_, fun _ => rfl⟩
          refine steps_cons ?_ ?_
          · rintro b a w' ⟨gb163, gb164, m9_, m10_, ha, Q_BK152, Q_BK153, Q_HB, Q_NB164_163, Q_NB163_164, Q_BK163, Q_GW163, Q_GE163, Q_NB152_163, Q_NB163_152, Q_NB153_163, Q_NB163_153, Q_BK164, Q_GW164, Q_GE164, Q_NB152_164, Q_NB164_152, Q_NB153_164, Q_NB164_153, Q_BK163_e11, Q_BK164_e12, Q_X9_, Q_X10_⟩ hb_ hon hoff
            refine ⟨_, rfl, fun K hK => ?_⟩
            have e5 : a.tmps[5]? = some (m9_) := by rw [ha]; exact putSel_on (e := (9, 5, m9_)) 9 rfl rfl (hon 9 (by kernel_rfl)) rfl
            rw [Q_X9_ (hon 9 (by kernel_rfl))] at e5
            have e17 : a.tmps[17]? = some (.agg #[.int .i64 t158, .int .i64 t159]) := by rw [ha]; exact putSel_on (e := (6, 17, .agg #[.int .i64 t158, .int .i64 t159])) 6 rfl rfl (hon 6 (by kernel_rfl)) rfl
            replace ha := Aside0.mk ha
            have BK152 := Aside0.mk Q_BK152
            have BK153 := Aside0.mk Q_BK153
            have HB := Aside0.mk Q_HB
            have NB164_163 := Aside0.mk (Q_NB164_163 (hon 9 (by kernel_rfl)) (hon 10 (by kernel_rfl)))
            have NB163_164 := Aside0.mk (Q_NB163_164 (hon 9 (by kernel_rfl)) (hon 10 (by kernel_rfl)))
            have BK163 := Aside0.mk (Q_BK163 (hon 9 (by kernel_rfl)) hb_)
            have GW163 := Aside0.mk (Q_GW163 (hon 9 (by kernel_rfl)))
            have GE163 := Aside0.mk (Q_GE163 (hon 9 (by kernel_rfl)))
            have NB152_163 := Aside0.mk (Q_NB152_163 (hon 9 (by kernel_rfl)))
            have NB163_152 := Aside0.mk (Q_NB163_152 (hon 9 (by kernel_rfl)))
            have NB153_163 := Aside0.mk (Q_NB153_163 (hon 9 (by kernel_rfl)))
            have NB163_153 := Aside0.mk (Q_NB163_153 (hon 9 (by kernel_rfl)))
            have BK164 := Aside0.mk (Q_BK164 (hon 10 (by kernel_rfl)) (hoff 12 (by kernel_rfl)))
            have GW164 := Aside0.mk (Q_GW164 (hon 10 (by kernel_rfl)))
            have GE164 := Aside0.mk (Q_GE164 (hon 10 (by kernel_rfl)))
            have NB152_164 := Aside0.mk (Q_NB152_164 (hon 10 (by kernel_rfl)))
            have NB164_152 := Aside0.mk (Q_NB164_152 (hon 10 (by kernel_rfl)))
            have NB153_164 := Aside0.mk (Q_NB153_164 (hon 10 (by kernel_rfl)))
            have NB164_153 := Aside0.mk (Q_NB164_153 (hon 10 (by kernel_rfl)))
            have hs23 : w'.cell? ⟨gb163, 0, none⟩ = some (.int .i64 0) := (blk_cell BK163.out 0).trans rfl
            have hfs23 := blk_frozen BK163.out 0
            have hns23_0 := NB152_163.out
            have hns23_1 := NB153_163.out
            have hns23_3 := NB164_163.out
            have hms23_0 := NB163_152.out
            have hms23_1 := NB163_153.out
            have hms23_3 := NB163_164.out
            have hs24 : w'.cell? ⟨gb163, 1, none⟩ = some (.int .i64 0) := (blk_cell BK163.out 1).trans rfl
            have hfs24 := blk_frozen BK163.out 1
            have hns24_0 := NB152_163.out
            have hns24_1 := NB153_163.out
            have hns24_3 := NB164_163.out
            have hms24_0 := NB163_152.out
            have hms24_1 := NB163_153.out
            have hms24_3 := NB163_164.out
            refine skip_ (w1 := ?_) (by rfl) rfl ?_ ?_
            rotate_left
            · go_simp
              rfl
            refine hK.out _ _ ⟨gb163, gb164, m9_, m10_, (by rw [ha.out]; exact putSel_none (v := undef) rfl), (by (with_reducible repeat (first | refine blk_drewN ?_ _ | refine blk_drew ?_ | refine blk_alloc ?_ _)); refine blk_far ?_ NB152_163.out _; (with_reducible repeat (first | refine blk_drewN ?_ _ | refine blk_drew ?_ | refine blk_alloc ?_ _)); refine blk_far ?_ NB152_163.out _; (with_reducible repeat (first | refine blk_drewN ?_ _ | refine blk_drew ?_ | refine blk_alloc ?_ _)); exact BK152.out), (by (with_reducible repeat (first | refine blk_drewN ?_ _ | refine blk_drew ?_ | refine blk_alloc ?_ _)); refine blk_far ?_ NB153_163.out _; (with_reducible repeat (first | refine blk_drewN ?_ _ | refine blk_drew ?_ | refine blk_alloc ?_ _)); refine blk_far ?_ NB153_163.out _; (with_reducible repeat (first | refine blk_drewN ?_ _ | refine blk_drew ?_ | refine blk_alloc ?_ _)); exact BK153.out), (by repeat (first | (with_reducible first | exact HB.out | apply below_alloc | apply pw_below_drewN | apply below_drew1 | refine below_set ?_ GE152.out | refine below_set ?_ GE153.out | refine below_set ?_ GE163.out | refine below_set ?_ GE164.out) | exact HB.out)), fun _ _ => NB164_163.out, fun _ _ => NB163_164.out, fun _ h1_ => absurd ((up_self b 11).symm.trans h1_) (by decide), fun _ => GW163.out, fun _ => GE163.out, fun _ => NB152_163.out, fun _ => NB163_152.out, fun _ => NB153_163.out, fun _ => NB163_153.out, fun _ _ => (by (with_reducible repeat (first | refine blk_drewN ?_ _ | refine blk_drew ?_ | refine blk_alloc ?_ _)); refine blk_far ?_ NB164_163.out _; (with_reducible repeat (first | refine blk_drewN ?_ _ | refine blk_drew ?_ | refine blk_alloc ?_ _)); refine blk_far ?_ NB164_163.out _; (with_reducible repeat (first | refine blk_drewN ?_ _ | refine blk_drew ?_ | refine blk_alloc ?_ _)); exact BK164.out), fun _ => GW164.out, fun _ => GE164.out, fun _ => NB152_164.out, fun _ => NB164_152.out, fun _ => NB153_164.out, fun _ => NB164_153.out, fun _ => (by (with_reducible repeat (first | refine blk_drewN ?_ _ | refine blk_drew ?_ | refine blk_alloc ?_ _)); refine blk_put (cs := #[.int .i64 t158, .int .i64 0]) ?_ 1 _ rfl; (with_reducible repeat (first | refine blk_drewN ?_ _ | refine blk_drew ?_ | refine blk_alloc ?_ _)); refine blk_put (cs := #[.int .i64 0, .int .i64 0]) ?_ 0 _ rfl; (with_reducible repeat (first | refine blk_drewN ?_ _ | refine blk_drew ?_ | refine blk_alloc ?_ _)); exact BK163.out), fun h0_ => absurd ((hoff 12 (by kernel_rfl)).symm.trans h0_) (by decide), Q_X9_, Q_X10_⟩
          refine steps_cons ?_ ?_
          · rintro b a w' ⟨gb163, gb164, m9_, m10_, ha, Q_BK152, Q_BK153, Q_HB, Q_NB164_163, Q_NB163_164, Q_BK163, Q_GW163, Q_GE163, Q_NB152_163, Q_NB163_152, Q_NB153_163, Q_NB163_153, Q_BK164, Q_GW164, Q_GE164, Q_NB152_164, Q_NB164_152, Q_NB153_164, Q_NB164_153, Q_BK163_e11, Q_BK164_e12, Q_X9_, Q_X10_⟩ hb_ hon hoff
            refine ⟨_, rfl, fun K hK => ?_⟩
            have e6 : a.tmps[6]? = some (m10_) := by rw [ha]; exact putSel_on (e := (10, 6, m10_)) 10 rfl rfl (hon 10 (by kernel_rfl)) rfl
            rw [Q_X10_ (hon 10 (by kernel_rfl))] at e6
            have e18 : a.tmps[18]? = some (.agg #[.int .i64 t160, .int .i64 t161]) := by rw [ha]; exact putSel_on (e := (7, 18, .agg #[.int .i64 t160, .int .i64 t161])) 7 rfl rfl (hon 7 (by kernel_rfl)) rfl
            replace ha := Aside0.mk ha
            have BK152 := Aside0.mk Q_BK152
            have BK153 := Aside0.mk Q_BK153
            have HB := Aside0.mk Q_HB
            have NB164_163 := Aside0.mk (Q_NB164_163 (hon 9 (by kernel_rfl)) (hon 10 (by kernel_rfl)))
            have NB163_164 := Aside0.mk (Q_NB163_164 (hon 9 (by kernel_rfl)) (hon 10 (by kernel_rfl)))
            have GW163 := Aside0.mk (Q_GW163 (hon 9 (by kernel_rfl)))
            have GE163 := Aside0.mk (Q_GE163 (hon 9 (by kernel_rfl)))
            have NB152_163 := Aside0.mk (Q_NB152_163 (hon 9 (by kernel_rfl)))
            have NB163_152 := Aside0.mk (Q_NB163_152 (hon 9 (by kernel_rfl)))
            have NB153_163 := Aside0.mk (Q_NB153_163 (hon 9 (by kernel_rfl)))
            have NB163_153 := Aside0.mk (Q_NB163_153 (hon 9 (by kernel_rfl)))
            have BK164 := Aside0.mk (Q_BK164 (hon 10 (by kernel_rfl)) hb_)
            have GW164 := Aside0.mk (Q_GW164 (hon 10 (by kernel_rfl)))
            have GE164 := Aside0.mk (Q_GE164 (hon 10 (by kernel_rfl)))
            have NB152_164 := Aside0.mk (Q_NB152_164 (hon 10 (by kernel_rfl)))
            have NB164_152 := Aside0.mk (Q_NB164_152 (hon 10 (by kernel_rfl)))
            have NB153_164 := Aside0.mk (Q_NB153_164 (hon 10 (by kernel_rfl)))
            have NB164_153 := Aside0.mk (Q_NB164_153 (hon 10 (by kernel_rfl)))
            have BK163 := Aside0.mk (Q_BK163_e11 (hon 11 (by kernel_rfl)))
            have hs25 : w'.cell? ⟨gb164, 0, none⟩ = some (.int .i64 0) := (blk_cell BK164.out 0).trans rfl
            have hfs25 := blk_frozen BK164.out 0
            have hns25_0 := NB152_164.out
            have hns25_1 := NB153_164.out
            have hns25_2 := NB163_164.out
            have hms25_0 := NB164_152.out
            have hms25_1 := NB164_153.out
            have hms25_2 := NB164_163.out
            have hs26 : w'.cell? ⟨gb164, 1, none⟩ = some (.int .i64 0) := (blk_cell BK164.out 1).trans rfl
            have hfs26 := blk_frozen BK164.out 1
            have hns26_0 := NB152_164.out
            have hns26_1 := NB153_164.out
            have hns26_2 := NB163_164.out
            have hms26_0 := NB164_152.out
            have hms26_1 := NB164_153.out
            have hms26_2 := NB164_163.out
            refine skip_ (w1 := ?_) (by rfl) rfl ?_ ?_
            rotate_left
            · go_simp
              rfl
            refine hK.out _ _ ⟨gb163, gb164, m9_, m10_, (by rw [ha.out]; exact putSel_none (v := undef) rfl), (by (with_reducible repeat (first | refine blk_drewN ?_ _ | refine blk_drew ?_ | refine blk_alloc ?_ _)); refine blk_far ?_ NB152_164.out _; (with_reducible repeat (first | refine blk_drewN ?_ _ | refine blk_drew ?_ | refine blk_alloc ?_ _)); refine blk_far ?_ NB152_164.out _; (with_reducible repeat (first | refine blk_drewN ?_ _ | refine blk_drew ?_ | refine blk_alloc ?_ _)); exact BK152.out), (by (with_reducible repeat (first | refine blk_drewN ?_ _ | refine blk_drew ?_ | refine blk_alloc ?_ _)); refine blk_far ?_ NB153_164.out _; (with_reducible repeat (first | refine blk_drewN ?_ _ | refine blk_drew ?_ | refine blk_alloc ?_ _)); refine blk_far ?_ NB153_164.out _; (with_reducible repeat (first | refine blk_drewN ?_ _ | refine blk_drew ?_ | refine blk_alloc ?_ _)); exact BK153.out), (by repeat (first | (with_reducible first | exact HB.out | apply below_alloc | apply pw_below_drewN | apply below_drew1 | refine below_set ?_ GE152.out | refine below_set ?_ GE153.out | refine below_set ?_ GE163.out | refine below_set ?_ GE164.out) | exact HB.out)), fun _ _ => NB164_163.out, fun _ _ => NB163_164.out, fun _ h1_ => absurd ((hon 11 (by kernel_rfl)).symm.trans h1_) (by decide), fun _ => GW163.out, fun _ => GE163.out, fun _ => NB152_163.out, fun _ => NB163_152.out, fun _ => NB153_163.out, fun _ => NB163_153.out, fun _ h1_ => absurd ((up_self b 12).symm.trans h1_) (by decide), fun _ => GW164.out, fun _ => GE164.out, fun _ => NB152_164.out, fun _ => NB164_152.out, fun _ => NB153_164.out, fun _ => NB164_153.out, fun _ => (by (with_reducible repeat (first | refine blk_drewN ?_ _ | refine blk_drew ?_ | refine blk_alloc ?_ _)); refine blk_far ?_ NB163_164.out _; (with_reducible repeat (first | refine blk_drewN ?_ _ | refine blk_drew ?_ | refine blk_alloc ?_ _)); refine blk_far ?_ NB163_164.out _; (with_reducible repeat (first | refine blk_drewN ?_ _ | refine blk_drew ?_ | refine blk_alloc ?_ _)); exact BK163.out), fun _ => (by (with_reducible repeat (first | refine blk_drewN ?_ _ | refine blk_drew ?_ | refine blk_alloc ?_ _)); refine blk_put (cs := #[.int .i64 t160, .int .i64 0]) ?_ 1 _ rfl; (with_reducible repeat (first | refine blk_drewN ?_ _ | refine blk_drew ?_ | refine blk_alloc ?_ _)); refine blk_put (cs := #[.int .i64 0, .int .i64 0]) ?_ 0 _ rfl; (with_reducible repeat (first | refine blk_drewN ?_ _ | refine blk_drew ?_ | refine blk_alloc ?_ _)); exact BK164.out), Q_X9_, Q_X10_⟩
          refine steps_cons ?_ ?_
          · rintro b a w' ⟨gb163, gb164, m9_, m10_, ha, Q_BK152, Q_BK153, Q_HB, Q_NB164_163, Q_NB163_164, Q_BK163, Q_GW163, Q_GE163, Q_NB152_163, Q_NB163_152, Q_NB153_163, Q_NB163_153, Q_BK164, Q_GW164, Q_GE164, Q_NB152_164, Q_NB164_152, Q_NB153_164, Q_NB164_153, Q_BK163_e11, Q_BK164_e12, Q_X9_, Q_X10_⟩ hb_ hon hoff
            refine ⟨_, rfl, fun K hK => ?_⟩
            have e19 : a.tmps[19]? = some (.bool t162) := by rw [ha]; exact putSel_on (e := (8, 19, .bool t162)) 8 rfl rfl (hon 8 (by kernel_rfl)) rfl
            replace ha := Aside0.mk ha
            have BK152 := Aside0.mk Q_BK152
            have BK153 := Aside0.mk Q_BK153
            have HB := Aside0.mk Q_HB
            have NB164_163 := Aside0.mk (Q_NB164_163 (hon 9 (by kernel_rfl)) (hon 10 (by kernel_rfl)))
            have NB163_164 := Aside0.mk (Q_NB163_164 (hon 9 (by kernel_rfl)) (hon 10 (by kernel_rfl)))
            have GW163 := Aside0.mk (Q_GW163 (hon 9 (by kernel_rfl)))
            have GE163 := Aside0.mk (Q_GE163 (hon 9 (by kernel_rfl)))
            have NB152_163 := Aside0.mk (Q_NB152_163 (hon 9 (by kernel_rfl)))
            have NB163_152 := Aside0.mk (Q_NB163_152 (hon 9 (by kernel_rfl)))
            have NB153_163 := Aside0.mk (Q_NB153_163 (hon 9 (by kernel_rfl)))
            have NB163_153 := Aside0.mk (Q_NB163_153 (hon 9 (by kernel_rfl)))
            have GW164 := Aside0.mk (Q_GW164 (hon 10 (by kernel_rfl)))
            have GE164 := Aside0.mk (Q_GE164 (hon 10 (by kernel_rfl)))
            have NB152_164 := Aside0.mk (Q_NB152_164 (hon 10 (by kernel_rfl)))
            have NB164_152 := Aside0.mk (Q_NB164_152 (hon 10 (by kernel_rfl)))
            have NB153_164 := Aside0.mk (Q_NB153_164 (hon 10 (by kernel_rfl)))
            have NB164_153 := Aside0.mk (Q_NB164_153 (hon 10 (by kernel_rfl)))
            have BK163 := Aside0.mk (Q_BK163_e11 (hon 11 (by kernel_rfl)))
            have BK164 := Aside0.mk (Q_BK164_e12 (hon 12 (by kernel_rfl)))
            refine value_ (w1 := w') (v := .bool t162) (by rfl) rfl ?_ ?_
            · go_simp
              (try simp only [i64_w])
              try rfl
            refine hK.out _ _ ⟨gb163, gb164, m9_, m10_, (by rw [ha.out]; exact putSel_upk 11 hb_ rfl rfl rfl), Q_BK152, Q_BK153, Q_HB, Q_NB164_163, Q_NB163_164, fun _ h1_ => absurd ((hon 11 (by kernel_rfl)).symm.trans h1_) (by decide), Q_GW163, Q_GE163, Q_NB152_163, Q_NB163_152, Q_NB153_163, Q_NB163_153, fun _ h1_ => absurd ((hon 12 (by kernel_rfl)).symm.trans h1_) (by decide), Q_GW164, Q_GE164, Q_NB152_164, Q_NB164_152, Q_NB153_164, Q_NB164_153, Q_BK163_e11, Q_BK164_e12, Q_X9_, Q_X10_⟩
          exact steps_nil
        rintro b a w26 hall ⟨gb163, gb164, m9_, m10_, ha, Q_BK152, Q_BK153, Q_HB, Q_NB164_163, Q_NB163_164, Q_BK163, Q_GW163, Q_GE163, Q_NB152_163, Q_NB163_152, Q_NB153_163, Q_NB163_153, Q_BK164, Q_GW164, Q_GE164, Q_NB152_164, Q_NB164_152, Q_NB153_164, Q_NB164_153, Q_BK163_e11, Q_BK164_e12, Q_X9_, Q_X10_⟩
        clear BK152 BK153 HB
        have hb0_ := hall 0 (by kernel_rfl)
        have hb1_ := hall 1 (by kernel_rfl)
        have hb2_ := hall 2 (by kernel_rfl)
        have hb3_ := hall 3 (by kernel_rfl)
        have hb4_ := hall 4 (by kernel_rfl)
        have hb5_ := hall 5 (by kernel_rfl)
        have hb6_ := hall 6 (by kernel_rfl)
        have hb7_ := hall 7 (by kernel_rfl)
        have hb8_ := hall 8 (by kernel_rfl)
        have hb9_ := hall 9 (by kernel_rfl)
        have hb10_ := hall 10 (by kernel_rfl)
        have hb11_ := hall 11 (by kernel_rfl)
        have hb12_ := hall 12 (by kernel_rfl)
        have hb13_ := hall 13 (by kernel_rfl)
        subst ha
        obtain rfl := Q_X9_ hb9_
        obtain rfl := Q_X10_ hb10_
        simp only [putSel, hb0_, hb1_, hb2_, hb3_, hb4_, hb5_, hb6_, hb7_, hb8_, hb9_, hb10_, hb11_, hb12_, hb13_, if_true, Act.put, List.setIfInBounds_toArray, List.set_cons_zero, List.set_cons_succ]
        have BK152 := Aside0.mk Q_BK152
        clear Q_BK152
        have BK153 := Aside0.mk Q_BK153
        clear Q_BK153
        have HB := Aside0.mk Q_HB
        clear Q_HB
        have NB164_163 := Aside0.mk (Q_NB164_163 hb9_ hb10_)
        clear Q_NB164_163
        have NB163_164 := Aside0.mk (Q_NB163_164 hb9_ hb10_)
        clear Q_NB163_164
        clear Q_BK163
        have GW163 := Aside0.mk (Q_GW163 hb9_)
        clear Q_GW163
        have GE163 := Aside0.mk (Q_GE163 hb9_)
        clear Q_GE163
        have NB152_163 := Aside0.mk (Q_NB152_163 hb9_)
        clear Q_NB152_163
        have NB163_152 := Aside0.mk (Q_NB163_152 hb9_)
        clear Q_NB163_152
        have NB153_163 := Aside0.mk (Q_NB153_163 hb9_)
        clear Q_NB153_163
        have NB163_153 := Aside0.mk (Q_NB163_153 hb9_)
        clear Q_NB163_153
        clear Q_BK164
        have GW164 := Aside0.mk (Q_GW164 hb10_)
        clear Q_GW164
        have GE164 := Aside0.mk (Q_GE164 hb10_)
        clear Q_GE164
        have NB152_164 := Aside0.mk (Q_NB152_164 hb10_)
        clear Q_NB152_164
        have NB164_152 := Aside0.mk (Q_NB164_152 hb10_)
        clear Q_NB164_152
        have NB153_164 := Aside0.mk (Q_NB153_164 hb10_)
        clear Q_NB153_164
        have NB164_153 := Aside0.mk (Q_NB164_153 hb10_)
        clear Q_NB164_153
        have BK163 := Aside0.mk (Q_BK163_e11 hb11_)
        clear Q_BK163_e11
        have BK164 := Aside0.mk (Q_BK164_e12 hb12_)
        clear Q_BK164_e12
        clear hall hb0_ hb1_ hb2_ hb3_ hb4_ hb5_ hb6_ hb7_ hb8_ hb9_ hb10_ hb11_ hb12_ hb13_
        try go_wp2
        have n0_ := Aside0.mk (blk_drew BK152.out)
        have n1_ := Aside0.mk (blk_drew BK153.out)
        have n2_ := Aside0.mk (blk_drew BK163.out)
        have n3_ := Aside0.mk (blk_drew BK164.out)
        have n4_ := Aside0.mk (below_drew1 HB.out)
        clear BK152
        clear BK153
        clear BK163
        clear BK164
        clear HB
        have BK152 := n0_
        have BK153 := n1_
        have BK163 := n2_
        have BK164 := n3_
        have HB := n4_
        clear n0_ n1_ n2_ n3_ n4_
        refine start_ (n := 14) (S := fun w' => True) (ds := []) #[false, false, false, false, false, false, false, false, false, false, false, false, false, false] (by kernel_rfl) rfl rfl trivial (fun hHeld => ?_); refine with_tabW laws_FnExactSplitLess.tab2 laws_FnExactSplitLess.bits2 (fun HT_ HW_ => ?_)
        generalize w26.drew = w27 at BK152 BK153 BK163 BK164 HB hHeld ⊢
        refine inv_at [0, 1, 2, 3, 4, 5, 6, 7, 8, 9, 10, 11, 12, 13] (fun a0_ b a w' => ∃ (gb174 : Nat) (gb175 : Nat) (m9_ : Value) (m10_ : Value), a = putSel a0_ b [(0, 21, .agg #[.int .i64 a0_0, .int .i64 a0_1]), (1, 22, .agg #[.int .i64 t165, .int .i64 t166]), (2, 23, .agg #[.int .i64 a1_0, .int .i64 a1_1]), (3, 24, .agg #[.int .i64 t167, .int .i64 t168]), (4, 25, .tuple #[.agg #[.int .i64 t169, .int .i64 t170], .agg #[.int .i64 t171, .int .i64 t172], .bool t173]), (5, 20, .tuple #[.agg #[.int .i64 t169, .int .i64 t170], .agg #[.int .i64 t171, .int .i64 t172], .bool t173]), (6, 26, .agg #[.int .i64 t169, .int .i64 t170]), (7, 27, .agg #[.int .i64 t171, .int .i64 t172]), (8, 28, .bool t173), (9, 8, m9_), (10, 9, m10_), (13, 10, .bool t173)] ∧ (w'.heap[gb152]? = some (.cells #[.int .i64 a0_0, .int .i64 a0_1] 29 (0, 0))) ∧ (w'.heap[gb153]? = some (.cells #[.int .i64 a1_0, .int .i64 a1_1] 29 (0, 0))) ∧ (w'.heap[gb163]? = some (.cells #[.int .i64 t158, .int .i64 t159] 31 (0, 0))) ∧ (w'.heap[gb164]? = some (.cells #[.int .i64 t160, .int .i64 t161] 31 (0, 0))) ∧ (Below w.heap.size w w') ∧ (b 9 = true → b 10 = true → gb175 ≠ gb174) ∧ (b 9 = true → b 10 = true → gb174 ≠ gb175) ∧ (b 9 = true → b 11 = false → w'.heap[gb174]? = some (.cells #[.int .i64 0, .int .i64 0] 31 (0, 0))) ∧ (b 9 = true → w.heap.size ≤ gb174) ∧ (b 9 = true → w.heap.size ≤ gb174) ∧ (b 9 = true → gb152 ≠ gb174) ∧ (b 9 = true → gb174 ≠ gb152) ∧ (b 9 = true → gb153 ≠ gb174) ∧ (b 9 = true → gb174 ≠ gb153) ∧ (b 9 = true → gb163 ≠ gb174) ∧ (b 9 = true → gb174 ≠ gb163) ∧ (b 9 = true → gb164 ≠ gb174) ∧ (b 9 = true → gb174 ≠ gb164) ∧ (b 10 = true → b 12 = false → w'.heap[gb175]? = some (.cells #[.int .i64 0, .int .i64 0] 31 (0, 0))) ∧ (b 10 = true → w.heap.size ≤ gb175) ∧ (b 10 = true → w.heap.size ≤ gb175) ∧ (b 10 = true → gb152 ≠ gb175) ∧ (b 10 = true → gb175 ≠ gb152) ∧ (b 10 = true → gb153 ≠ gb175) ∧ (b 10 = true → gb175 ≠ gb153) ∧ (b 10 = true → gb163 ≠ gb175) ∧ (b 10 = true → gb175 ≠ gb163) ∧ (b 10 = true → gb164 ≠ gb175) ∧ (b 10 = true → gb175 ≠ gb164) ∧ (b 11 = true → w'.heap[gb174]? = some (.cells #[.int .i64 t169, .int .i64 t170] 31 (0, 0))) ∧ (b 12 = true → w'.heap[gb175]? = some (.cells #[.int .i64 t171, .int .i64 t172] 31 (0, 0))) ∧ (b 9 = true → (m9_ : Value) = .pointer (some ⟨gb174, 0, none⟩)) ∧ (b 10 = true → (m10_ : Value) = .pointer (some ⟨gb175, 0, none⟩))) HT_.out HW_.out (by kernel_rfl) (by kernel_rfl) ?_ ?_ ?_
        · exact ⟨0, 0, .bool false, .bool false, by simp only [putSel, Bool.false_eq_true, if_false], BK152.out, BK153.out, BK163.out, BK164.out, HB.out, fun h_ => absurd h_ (by decide), fun h_ => absurd h_ (by decide), fun h_ => absurd h_ (by decide), fun h_ => absurd h_ (by decide), fun h_ => absurd h_ (by decide), fun h_ => absurd h_ (by decide), fun h_ => absurd h_ (by decide), fun h_ => absurd h_ (by decide), fun h_ => absurd h_ (by decide), fun h_ => absurd h_ (by decide), fun h_ => absurd h_ (by decide), fun h_ => absurd h_ (by decide), fun h_ => absurd h_ (by decide), fun h_ => absurd h_ (by decide), fun h_ => absurd h_ (by decide), fun h_ => absurd h_ (by decide), fun h_ => absurd h_ (by decide), fun h_ => absurd h_ (by decide), fun h_ => absurd h_ (by decide), fun h_ => absurd h_ (by decide), fun h_ => absurd h_ (by decide), fun h_ => absurd h_ (by decide), fun h_ => absurd h_ (by decide), fun h_ => absurd h_ (by decide), fun h_ => absurd h_ (by decide), fun h_ => absurd h_ (by decide), fun h_ => absurd h_ (by decide), fun h_ => absurd h_ (by decide)⟩
        · skip
          clear BK152 BK153 BK163 BK164 HB
          refine steps_cons ?_ ?_
          · rintro b a w' ⟨gb174, gb175, m9_, m10_, ha, Q_BK152, Q_BK153, Q_BK163, Q_BK164, Q_HB, Q_NB175_174, Q_NB174_175, Q_BK174, Q_GW174, Q_GE174, Q_NB152_174, Q_NB174_152, Q_NB153_174, Q_NB174_153, Q_NB163_174, Q_NB174_163, Q_NB164_174, Q_NB174_164, Q_BK175, Q_GW175, Q_GE175, Q_NB152_175, Q_NB175_152, Q_NB153_175, Q_NB175_153, Q_NB163_175, Q_NB175_163, Q_NB164_175, Q_NB175_164, Q_BK174_e11, Q_BK175_e12, Q_X9_, Q_X10_⟩ hb_ hon hoff
            refine ⟨_, rfl, fun K hK => ?_⟩
            have e2 : a.tmps[2]? = some (.pointer (some ⟨gb152, 0, none⟩)) := by rw [ha]; exact (putSel_off rfl).trans rfl
            replace ha := Aside0.mk ha
            have BK152 := Aside0.mk Q_BK152
            have BK153 := Aside0.mk Q_BK153
            have BK163 := Aside0.mk Q_BK163
            have BK164 := Aside0.mk Q_BK164
            have HB := Aside0.mk Q_HB
            have hc0_ : w'.cell? ⟨gb152, 0, none⟩ = some (.int .i64 a0_0) := (blk_cell BK152.out 0).trans rfl
            have hc1_ : w'.cell? ⟨gb152, 1, none⟩ = some (.int .i64 a0_1) := (blk_cell BK152.out 1).trans rfl
            refine value_ (w1 := w') (v := .agg #[.int .i64 a0_0, .int .i64 a0_1]) (by rfl) rfl ?_ ?_
            · go_simp
              (try simp only [i64_w])
              try rfl
            refine hK.out _ _ ⟨gb174, gb175, m9_, m10_, (by rw [ha.out]; exact putSel_upk 0 hb_ rfl rfl rfl), Q_BK152, Q_BK153, Q_BK163, Q_BK164, Q_HB, Q_NB175_174, Q_NB174_175, Q_BK174, Q_GW174, Q_GE174, Q_NB152_174, Q_NB174_152, Q_NB153_174, Q_NB174_153, Q_NB163_174, Q_NB174_163, Q_NB164_174, Q_NB174_164, Q_BK175, Q_GW175, Q_GE175, Q_NB152_175, Q_NB175_152, Q_NB153_175, Q_NB175_153, Q_NB163_175, Q_NB175_163, Q_NB164_175, Q_NB175_164, fun h0_ => absurd ((hoff 11 (by kernel_rfl)).symm.trans h0_) (by decide), fun h0_ => absurd ((hoff 12 (by kernel_rfl)).symm.trans h0_) (by decide), Q_X9_, Q_X10_⟩
          refine steps_cons ?_ ?_
          · rintro b a w' ⟨gb174, gb175, m9_, m10_, ha, Q_BK152, Q_BK153, Q_BK163, Q_BK164, Q_HB, Q_NB175_174, Q_NB174_175, Q_BK174, Q_GW174, Q_GE174, Q_NB152_174, Q_NB174_152, Q_NB153_174, Q_NB174_153, Q_NB163_174, Q_NB174_163, Q_NB164_174, Q_NB174_164, Q_BK175, Q_GW175, Q_GE175, Q_NB152_175, Q_NB175_152, Q_NB153_175, Q_NB175_153, Q_NB163_175, Q_NB175_163, Q_NB164_175, Q_NB175_164, Q_BK174_e11, Q_BK175_e12, Q_X9_, Q_X10_⟩ hb_ hon hoff
            refine ⟨_, rfl, fun K hK => ?_⟩
            have e21 : a.tmps[21]? = some (.agg #[.int .i64 a0_0, .int .i64 a0_1]) := by rw [ha]; exact putSel_on (e := (0, 21, .agg #[.int .i64 a0_0, .int .i64 a0_1])) 0 rfl rfl (hon 0 (by kernel_rfl)) rfl
            replace ha := Aside0.mk ha
            have BK152 := Aside0.mk Q_BK152
            have BK153 := Aside0.mk Q_BK153
            have BK163 := Aside0.mk Q_BK163
            have BK164 := Aside0.mk Q_BK164
            have HB := Aside0.mk Q_HB
            refine goes_ Try.func19 (by kernel_rfl) rfl #[.agg #[.int .i64 a0_0, .int .i64 a0_1]] (by rfl) rfl rfl (by first | (simp only [List.map_toArray, List.map_cons, List.map_nil, Act.eval, Array.getD_eq_getD_getElem?, Option.getD_some, e21]; done) | (simp only [List.map_toArray, List.map_cons, List.map_nil, Act.eval, Array.getD_eq_getD_getElem?, Option.getD_some, e21]; rfl)) ?_
            with_reducible refine (laws_toStretch.calls a0_0 a0_1 t165 t166 _ A6.out).mono ?_
            rintro e w28 ⟨rfl, hb⟩
            refine ⟨_, rfl, ?_⟩
            have n0_ := Aside0.mk (blk_below (g := gb152) (o := .cells #[.int .i64 a0_0, .int .i64 a0_1] 29 (0, 0)) (by (with_reducible repeat (first | refine blk_drewN ?_ _ | refine blk_drew ?_ | refine blk_alloc ?_ _)); exact BK152.out) hb)
            have n1_ := Aside0.mk (blk_below (g := gb153) (o := .cells #[.int .i64 a1_0, .int .i64 a1_1] 29 (0, 0)) (by (with_reducible repeat (first | refine blk_drewN ?_ _ | refine blk_drew ?_ | refine blk_alloc ?_ _)); exact BK153.out) hb)
            have n2_ := Aside0.mk (blk_below (g := gb163) (o := .cells #[.int .i64 t158, .int .i64 t159] 31 (0, 0)) (by (with_reducible repeat (first | refine blk_drewN ?_ _ | refine blk_drew ?_ | refine blk_alloc ?_ _)); exact BK163.out) hb)
            have n3_ := Aside0.mk (blk_below (g := gb164) (o := .cells #[.int .i64 t160, .int .i64 t161] 31 (0, 0)) (by (with_reducible repeat (first | refine blk_drewN ?_ _ | refine blk_drew ?_ | refine blk_alloc ?_ _)); exact BK164.out) hb)
            have n4_ := Aside0.mk (below_step (by repeat (first | (with_reducible first | exact HB.out | apply below_alloc | apply pw_below_drewN | apply below_drew1 | refine below_set ?_ GE152.out | refine below_set ?_ GE153.out | refine below_set ?_ GE163.out | refine below_set ?_ GE164.out) | exact HB.out)) hb)
            have z_BK174 := fun (h0_ : b 9 = true) (h1_ : b 11 = false) => (show w28.heap[gb174]? = some (.cells #[.int .i64 0, .int .i64 0] 31 (0, 0)) from by first | exact (blk_below (g := gb174) (o := .cells #[.int .i64 0, .int .i64 0] 31 (0, 0)) (by (with_reducible repeat (first | refine blk_drewN ?_ _ | refine blk_drew ?_ | refine blk_alloc ?_ _)); exact (Q_BK174 h0_ h1_)) hb))
            have z_BK175 := fun (h0_ : b 10 = true) (h1_ : b 12 = false) => (show w28.heap[gb175]? = some (.cells #[.int .i64 0, .int .i64 0] 31 (0, 0)) from by first | exact (blk_below (g := gb175) (o := .cells #[.int .i64 0, .int .i64 0] 31 (0, 0)) (by (with_reducible repeat (first | refine blk_drewN ?_ _ | refine blk_drew ?_ | refine blk_alloc ?_ _)); exact (Q_BK175 h0_ h1_)) hb))
            clear BK152
            clear BK153
            clear BK163
            clear BK164
            clear HB
            have BK152 := n0_
            have BK153 := n1_
            have BK163 := n2_
            have BK164 := n3_
            have HB := n4_
            clear n0_ n1_ n2_ n3_ n4_
            (try clear hb)
            (try clear hb2)
            (try clear hk)
            (try clear hi)
            refine hK.out _ _ ⟨gb174, gb175, m9_, m10_, (by rw [ha.out]; exact putSel_upk 1 hb_ rfl rfl rfl), (by (with_reducible repeat (first | refine blk_drewN ?_ _ | refine blk_drew ?_ | refine blk_alloc ?_ _)); exact BK152.out), (by (with_reducible repeat (first | refine blk_drewN ?_ _ | refine blk_drew ?_ | refine blk_alloc ?_ _)); exact BK153.out), (by (with_reducible repeat (first | refine blk_drewN ?_ _ | refine blk_drew ?_ | refine blk_alloc ?_ _)); exact BK163.out), (by (with_reducible repeat (first | refine blk_drewN ?_ _ | refine blk_drew ?_ | refine blk_alloc ?_ _)); exact BK164.out), (by repeat (first | (with_reducible first | exact HB.out | apply below_alloc | apply pw_below_drewN | apply below_drew1 | refine below_set ?_ GE152.out | refine below_set ?_ GE153.out | refine below_set ?_ GE163.out | refine below_set ?_ GE164.out) | exact HB.out)), Q_NB175_174, Q_NB174_175, z_BK174, Q_GW174, Q_GE174, Q_NB152_174, Q_NB174_152, Q_NB153_174, Q_NB174_153, Q_NB163_174, Q_NB174_163, Q_NB164_174, Q_NB174_164, z_BK175, Q_GW175, Q_GE175, Q_NB152_175, Q_NB175_152, Q_NB153_175, Q_NB175_153, Q_NB163_175, Q_NB175_163, Q_NB164_175, Q_NB175_164, fun h0_ => absurd ((hoff 11 (by kernel_rfl)).symm.trans h0_) (by decide), fun h0_ => absurd ((hoff 12 (by kernel_rfl)).symm.trans h0_) (by decide), Q_X9_, Q_X10_⟩
          refine steps_cons ?_ ?_
          · rintro b a w' ⟨gb174, gb175, m9_, m10_, ha, Q_BK152, Q_BK153, Q_BK163, Q_BK164, Q_HB, Q_NB175_174, Q_NB174_175, Q_BK174, Q_GW174, Q_GE174, Q_NB152_174, Q_NB174_152, Q_NB153_174, Q_NB174_153, Q_NB163_174, Q_NB174_163, Q_NB164_174, Q_NB174_164, Q_BK175, Q_GW175, Q_GE175, Q_NB152_175, Q_NB175_152, Q_NB153_175, Q_NB175_153, Q_NB163_175, Q_NB175_163, Q_NB164_175, Q_NB175_164, Q_BK174_e11, Q_BK175_e12, Q_X9_, Q_X10_⟩ hb_ hon hoff
            refine ⟨_, rfl, fun K hK => ?_⟩
            have e3 : a.tmps[3]? = some (.pointer (some ⟨gb153, 0, none⟩)) := by rw [ha]; exact (putSel_off rfl).trans rfl
            replace ha := Aside0.mk ha
            have BK152 := Aside0.mk Q_BK152
            have BK153 := Aside0.mk Q_BK153
            have BK163 := Aside0.mk Q_BK163
            have BK164 := Aside0.mk Q_BK164
            have HB := Aside0.mk Q_HB
            have hc0_ : w'.cell? ⟨gb153, 0, none⟩ = some (.int .i64 a1_0) := (blk_cell BK153.out 0).trans rfl
            have hc1_ : w'.cell? ⟨gb153, 1, none⟩ = some (.int .i64 a1_1) := (blk_cell BK153.out 1).trans rfl
            refine value_ (w1 := w') (v := .agg #[.int .i64 a1_0, .int .i64 a1_1]) (by rfl) rfl ?_ ?_
            · go_simp
              (try simp only [i64_w])
              try rfl
            refine hK.out _ _ ⟨gb174, gb175, m9_, m10_, (by rw [ha.out]; exact putSel_upk 2 hb_ rfl rfl rfl), Q_BK152, Q_BK153, Q_BK163, Q_BK164, Q_HB, Q_NB175_174, Q_NB174_175, Q_BK174, Q_GW174, Q_GE174, Q_NB152_174, Q_NB174_152, Q_NB153_174, Q_NB174_153, Q_NB163_174, Q_NB174_163, Q_NB164_174, Q_NB174_164, Q_BK175, Q_GW175, Q_GE175, Q_NB152_175, Q_NB175_152, Q_NB153_175, Q_NB175_153, Q_NB163_175, Q_NB175_163, Q_NB164_175, Q_NB175_164, fun h0_ => absurd ((hoff 11 (by kernel_rfl)).symm.trans h0_) (by decide), fun h0_ => absurd ((hoff 12 (by kernel_rfl)).symm.trans h0_) (by decide), Q_X9_, Q_X10_⟩
          refine steps_cons ?_ ?_
          · rintro b a w' ⟨gb174, gb175, m9_, m10_, ha, Q_BK152, Q_BK153, Q_BK163, Q_BK164, Q_HB, Q_NB175_174, Q_NB174_175, Q_BK174, Q_GW174, Q_GE174, Q_NB152_174, Q_NB174_152, Q_NB153_174, Q_NB174_153, Q_NB163_174, Q_NB174_163, Q_NB164_174, Q_NB174_164, Q_BK175, Q_GW175, Q_GE175, Q_NB152_175, Q_NB175_152, Q_NB153_175, Q_NB175_153, Q_NB163_175, Q_NB175_163, Q_NB164_175, Q_NB175_164, Q_BK174_e11, Q_BK175_e12, Q_X9_, Q_X10_⟩ hb_ hon hoff
            refine ⟨_, rfl, fun K hK => ?_⟩
            have e23 : a.tmps[23]? = some (.agg #[.int .i64 a1_0, .int .i64 a1_1]) := by rw [ha]; exact putSel_on (e := (2, 23, .agg #[.int .i64 a1_0, .int .i64 a1_1])) 2 rfl rfl (hon 2 (by kernel_rfl)) rfl
            replace ha := Aside0.mk ha
            have BK152 := Aside0.mk Q_BK152
            have BK153 := Aside0.mk Q_BK153
            have BK163 := Aside0.mk Q_BK163
            have BK164 := Aside0.mk Q_BK164
            have HB := Aside0.mk Q_HB
            refine goes_ Try.func19 (by kernel_rfl) rfl #[.agg #[.int .i64 a1_0, .int .i64 a1_1]] (by rfl) rfl rfl (by first | (simp only [List.map_toArray, List.map_cons, List.map_nil, Act.eval, Array.getD_eq_getD_getElem?, Option.getD_some, e23]; done) | (simp only [List.map_toArray, List.map_cons, List.map_nil, Act.eval, Array.getD_eq_getD_getElem?, Option.getD_some, e23]; rfl)) ?_
            with_reducible refine (laws_toStretch.calls a1_0 a1_1 t167 t168 _ A7.out).mono ?_
            rintro e w30 ⟨rfl, hb⟩
            refine ⟨_, rfl, ?_⟩
            have n0_ := Aside0.mk (blk_below (g := gb152) (o := .cells #[.int .i64 a0_0, .int .i64 a0_1] 29 (0, 0)) (by (with_reducible repeat (first | refine blk_drewN ?_ _ | refine blk_drew ?_ | refine blk_alloc ?_ _)); exact BK152.out) hb)
            have n1_ := Aside0.mk (blk_below (g := gb153) (o := .cells #[.int .i64 a1_0, .int .i64 a1_1] 29 (0, 0)) (by (with_reducible repeat (first | refine blk_drewN ?_ _ | refine blk_drew ?_ | refine blk_alloc ?_ _)); exact BK153.out) hb)
            have n2_ := Aside0.mk (blk_below (g := gb163) (o := .cells #[.int .i64 t158, .int .i64 t159] 31 (0, 0)) (by (with_reducible repeat (first | refine blk_drewN ?_ _ | refine blk_drew ?_ | refine blk_alloc ?_ _)); exact BK163.out) hb)
            have n3_ := Aside0.mk (blk_below (g := gb164) (o := .cells #[.int .i64 t160, .int .i64 t161] 31 (0, 0)) (by (with_reducible repeat (first | refine blk_drewN ?_ _ | refine blk_drew ?_ | refine blk_alloc ?_ _)); exact BK164.out) hb)
            have n4_ := Aside0.mk (below_step (by repeat (first | (with_reducible first | exact HB.out | apply below_alloc | apply pw_below_drewN | apply below_drew1 | refine below_set ?_ GE152.out | refine below_set ?_ GE153.out | refine below_set ?_ GE163.out | refine below_set ?_ GE164.out) | exact HB.out)) hb)
            have z_BK174 := fun (h0_ : b 9 = true) (h1_ : b 11 = false) => (show w30.heap[gb174]? = some (.cells #[.int .i64 0, .int .i64 0] 31 (0, 0)) from by first | exact (blk_below (g := gb174) (o := .cells #[.int .i64 0, .int .i64 0] 31 (0, 0)) (by (with_reducible repeat (first | refine blk_drewN ?_ _ | refine blk_drew ?_ | refine blk_alloc ?_ _)); exact (Q_BK174 h0_ h1_)) hb))
            have z_BK175 := fun (h0_ : b 10 = true) (h1_ : b 12 = false) => (show w30.heap[gb175]? = some (.cells #[.int .i64 0, .int .i64 0] 31 (0, 0)) from by first | exact (blk_below (g := gb175) (o := .cells #[.int .i64 0, .int .i64 0] 31 (0, 0)) (by (with_reducible repeat (first | refine blk_drewN ?_ _ | refine blk_drew ?_ | refine blk_alloc ?_ _)); exact (Q_BK175 h0_ h1_)) hb))
            clear BK152
            clear BK153
            clear BK163
            clear BK164
            clear HB
            have BK152 := n0_
            have BK153 := n1_
            have BK163 := n2_
            have BK164 := n3_
            have HB := n4_
            clear n0_ n1_ n2_ n3_ n4_
            (try clear hb)
            (try clear hb2)
            (try clear hk)
            (try clear hi)
            refine hK.out _ _ ⟨gb174, gb175, m9_, m10_, (by rw [ha.out]; exact putSel_upk 3 hb_ rfl rfl rfl), (by (with_reducible repeat (first | refine blk_drewN ?_ _ | refine blk_drew ?_ | refine blk_alloc ?_ _)); exact BK152.out), (by (with_reducible repeat (first | refine blk_drewN ?_ _ | refine blk_drew ?_ | refine blk_alloc ?_ _)); exact BK153.out), (by (with_reducible repeat (first | refine blk_drewN ?_ _ | refine blk_drew ?_ | refine blk_alloc ?_ _)); exact BK163.out), (by (with_reducible repeat (first | refine blk_drewN ?_ _ | refine blk_drew ?_ | refine blk_alloc ?_ _)); exact BK164.out), (by repeat (first | (with_reducible first | exact HB.out | apply below_alloc | apply pw_below_drewN | apply below_drew1 | refine below_set ?_ GE152.out | refine below_set ?_ GE153.out | refine below_set ?_ GE163.out | refine below_set ?_ GE164.out) | exact HB.out)), Q_NB175_174, Q_NB174_175, z_BK174, Q_GW174, Q_GE174, Q_NB152_174, Q_NB174_152, Q_NB153_174, Q_NB174_153, Q_NB163_174, Q_NB174_163, Q_NB164_174, Q_NB174_164, z_BK175, Q_GW175, Q_GE175, Q_NB152_175, Q_NB175_152, Q_NB153_175, Q_NB175_153, Q_NB163_175, Q_NB175_163, Q_NB164_175, Q_NB175_164, fun h0_ => absurd ((hoff 11 (by kernel_rfl)).symm.trans h0_) (by decide), fun h0_ => absurd ((hoff 12 (by kernel_rfl)).symm.trans h0_) (by decide), Q_X9_, Q_X10_⟩
          refine steps_cons ?_ ?_
          · rintro b a w' ⟨gb174, gb175, m9_, m10_, ha, Q_BK152, Q_BK153, Q_BK163, Q_BK164, Q_HB, Q_NB175_174, Q_NB174_175, Q_BK174, Q_GW174, Q_GE174, Q_NB152_174, Q_NB174_152, Q_NB153_174, Q_NB174_153, Q_NB163_174, Q_NB174_163, Q_NB164_174, Q_NB174_164, Q_BK175, Q_GW175, Q_GE175, Q_NB152_175, Q_NB175_152, Q_NB153_175, Q_NB175_153, Q_NB163_175, Q_NB175_163, Q_NB164_175, Q_NB175_164, Q_BK174_e11, Q_BK175_e12, Q_X9_, Q_X10_⟩ hb_ hon hoff
            refine ⟨_, rfl, fun K hK => ?_⟩
            have e22 : a.tmps[22]? = some (.agg #[.int .i64 t165, .int .i64 t166]) := by rw [ha]; exact putSel_on (e := (1, 22, .agg #[.int .i64 t165, .int .i64 t166])) 1 rfl rfl (hon 1 (by kernel_rfl)) rfl
            have e24 : a.tmps[24]? = some (.agg #[.int .i64 t167, .int .i64 t168]) := by rw [ha]; exact putSel_on (e := (3, 24, .agg #[.int .i64 t167, .int .i64 t168])) 3 rfl rfl (hon 3 (by kernel_rfl)) rfl
            replace ha := Aside0.mk ha
            have BK152 := Aside0.mk Q_BK152
            have BK153 := Aside0.mk Q_BK153
            have BK163 := Aside0.mk Q_BK163
            have BK164 := Aside0.mk Q_BK164
            have HB := Aside0.mk Q_HB
            refine goes_ Try.func38 (by kernel_rfl) rfl #[.agg #[.int .i64 t165, .int .i64 t166], .agg #[.int .i64 t167, .int .i64 t168]] (by rfl) rfl rfl (by first | (simp only [List.map_toArray, List.map_cons, List.map_nil, Act.eval, Array.getD_eq_getD_getElem?, Option.getD_some, e22, e24]; done) | (simp only [List.map_toArray, List.map_cons, List.map_nil, Act.eval, Array.getD_eq_getD_getElem?, Option.getD_some, e22, e24]; rfl)) ?_
            with_reducible refine (impl_SplitLess.calls t165 t166 t167 t168 t169 t170 t171 t172 t173 _ A8.out).mono ?_
            rintro e w31 ⟨rfl, hb⟩
            refine ⟨_, rfl, ?_⟩
            have n0_ := Aside0.mk (blk_below (g := gb152) (o := .cells #[.int .i64 a0_0, .int .i64 a0_1] 29 (0, 0)) (by (with_reducible repeat (first | refine blk_drewN ?_ _ | refine blk_drew ?_ | refine blk_alloc ?_ _)); exact BK152.out) hb)
            have n1_ := Aside0.mk (blk_below (g := gb153) (o := .cells #[.int .i64 a1_0, .int .i64 a1_1] 29 (0, 0)) (by (with_reducible repeat (first | refine blk_drewN ?_ _ | refine blk_drew ?_ | refine blk_alloc ?_ _)); exact BK153.out) hb)
            have n2_ := Aside0.mk (blk_below (g := gb163) (o := .cells #[.int .i64 t158, .int .i64 t159] 31 (0, 0)) (by (with_reducible repeat (first | refine blk_drewN ?_ _ | refine blk_drew ?_ | refine blk_alloc ?_ _)); exact BK163.out) hb)
            have n3_ := Aside0.mk (blk_below (g := gb164) (o := .cells #[.int .i64 t160, .int .i64 t161] 31 (0, 0)) (by (with_reducible repeat (first | refine blk_drewN ?_ _ | refine blk_drew ?_ | refine blk_alloc ?_ _)); exact BK164.out) hb)
            have n4_ := Aside0.mk (below_step (by repeat (first | (with_reducible first | exact HB.out | apply below_alloc | apply pw_below_drewN | apply below_drew1 | refine below_set ?_ GE152.out | refine below_set ?_ GE153.out | refine below_set ?_ GE163.out | refine below_set ?_ GE164.out) | exact HB.out)) hb)
            have z_BK174 := fun (h0_ : b 9 = true) (h1_ : b 11 = false) => (show w31.heap[gb174]? = some (.cells #[.int .i64 0, .int .i64 0] 31 (0, 0)) from by first | exact (blk_below (g := gb174) (o := .cells #[.int .i64 0, .int .i64 0] 31 (0, 0)) (by (with_reducible repeat (first | refine blk_drewN ?_ _ | refine blk_drew ?_ | refine blk_alloc ?_ _)); exact (Q_BK174 h0_ h1_)) hb))
            have z_BK175 := fun (h0_ : b 10 = true) (h1_ : b 12 = false) => (show w31.heap[gb175]? = some (.cells #[.int .i64 0, .int .i64 0] 31 (0, 0)) from by first | exact (blk_below (g := gb175) (o := .cells #[.int .i64 0, .int .i64 0] 31 (0, 0)) (by (with_reducible repeat (first | refine blk_drewN ?_ _ | refine blk_drew ?_ | refine blk_alloc ?_ _)); exact (Q_BK175 h0_ h1_)) hb))
            clear BK152
            clear BK153
            clear BK163
            clear BK164
            clear HB
            have BK152 := n0_
            have BK153 := n1_
            have BK163 := n2_
            have BK164 := n3_
            have HB := n4_
            clear n0_ n1_ n2_ n3_ n4_
            (try clear hb)
            (try clear hb2)
            (try clear hk)
            (try clear hi)
            refine hK.out _ _ ⟨gb174, gb175, m9_, m10_, (by rw [ha.out]; exact putSel_upk 4 hb_ rfl rfl rfl), (by (with_reducible repeat (first | refine blk_drewN ?_ _ | refine blk_drew ?_ | refine blk_alloc ?_ _)); exact BK152.out), (by (with_reducible repeat (first | refine blk_drewN ?_ _ | refine blk_drew ?_ | refine blk_alloc ?_ _)); exact BK153.out), (by (with_reducible repeat (first | refine blk_drewN ?_ _ | refine blk_drew ?_ | refine blk_alloc ?_ _)); exact BK163.out), (by (with_reducible repeat (first | refine blk_drewN ?_ _ | refine blk_drew ?_ | refine blk_alloc ?_ _)); exact BK164.out), (by repeat (first | (with_reducible first | exact HB.out | apply below_alloc | apply pw_below_drewN | apply below_drew1 | refine below_set ?_ GE152.out | refine below_set ?_ GE153.out | refine below_set ?_ GE163.out | refine below_set ?_ GE164.out) | exact HB.out)), Q_NB175_174, Q_NB174_175, z_BK174, Q_GW174, Q_GE174, Q_NB152_174, Q_NB174_152, Q_NB153_174, Q_NB174_153, Q_NB163_174, Q_NB174_163, Q_NB164_174, Q_NB174_164, z_BK175, Q_GW175, Q_GE175, Q_NB152_175, Q_NB175_152, Q_NB153_175, Q_NB175_153, Q_NB163_175, Q_NB175_163, Q_NB164_175, Q_NB175_164, fun h0_ => absurd ((hoff 11 (by kernel_rfl)).symm.trans h0_) (by decide), fun h0_ => absurd ((hoff 12 (by kernel_rfl)).symm.trans h0_) (by decide), Q_X9_, Q_X10_⟩
          refine steps_cons ?_ ?_
          · rintro b a w' ⟨gb174, gb175, m9_, m10_, ha, Q_BK152, Q_BK153, Q_BK163, Q_BK164, Q_HB, Q_NB175_174, Q_NB174_175, Q_BK174, Q_GW174, Q_GE174, Q_NB152_174, Q_NB174_152, Q_NB153_174, Q_NB174_153, Q_NB163_174, Q_NB174_163, Q_NB164_174, Q_NB174_164, Q_BK175, Q_GW175, Q_GE175, Q_NB152_175, Q_NB175_152, Q_NB153_175, Q_NB175_153, Q_NB163_175, Q_NB175_163, Q_NB164_175, Q_NB175_164, Q_BK174_e11, Q_BK175_e12, Q_X9_, Q_X10_⟩ hb_ hon hoff
            refine ⟨_, rfl, fun K hK => ?_⟩
            have e25 : a.tmps[25]? = some (.tuple #[.agg #[.int .i64 t169, .int .i64 t170], .agg #[.int .i64 t171, .int .i64 t172], .bool t173]) := by rw [ha]; exact putSel_on (e := (4, 25, .tuple #[.agg #[.int .i64 t169, .int .i64 t170], .agg #[.int .i64 t171, .int .i64 t172], .bool t173])) 4 rfl rfl (hon 4 (by kernel_rfl)) rfl
            replace ha := Aside0.mk ha
            have BK152 := Aside0.mk Q_BK152
            have BK153 := Aside0.mk Q_BK153
            have BK163 := Aside0.mk Q_BK163
            have BK164 := Aside0.mk Q_BK164
            have HB := Aside0.mk Q_HB
            refine value_ (w1 := w') (v := .tuple #[.agg #[.int .i64 t169, .int .i64 t170], .agg #[.int .i64 t171, .int .i64 t172], .bool t173]) (by rfl) rfl ?_ ?_
            · go_simp
              (try simp only [i64_w])
              try rfl
            refine hK.out _ _ ⟨gb174, gb175, m9_, m10_, (by rw [ha.out]; exact putSel_upk 5 hb_ rfl rfl rfl), Q_BK152, Q_BK153, Q_BK163, Q_BK164, Q_HB, Q_NB175_174, Q_NB174_175, Q_BK174, Q_GW174, Q_GE174, Q_NB152_174, Q_NB174_152, Q_NB153_174, Q_NB174_153, Q_NB163_174, Q_NB174_163, Q_NB164_174, Q_NB174_164, Q_BK175, Q_GW175, Q_GE175, Q_NB152_175, Q_NB175_152, Q_NB153_175, Q_NB175_153, Q_NB163_175, Q_NB175_163, Q_NB164_175, Q_NB175_164, fun h0_ => absurd ((hoff 11 (by kernel_rfl)).symm.trans h0_) (by decide), fun h0_ => absurd ((hoff 12 (by kernel_rfl)).symm.trans h0_) (by decide), Q_X9_, Q_X10_⟩
          refine steps_cons ?_ ?_
          · rintro b a w' ⟨gb174, gb175, m9_, m10_, ha, Q_BK152, Q_BK153, Q_BK163, Q_BK164, Q_HB, Q_NB175_174, Q_NB174_175, Q_BK174, Q_GW174, Q_GE174, Q_NB152_174, Q_NB174_152, Q_NB153_174, Q_NB174_153, Q_NB163_174, Q_NB174_163, Q_NB164_174, Q_NB174_164, Q_BK175, Q_GW175, Q_GE175, Q_NB152_175, Q_NB175_152, Q_NB153_175, Q_NB175_153, Q_NB163_175, Q_NB175_163, Q_NB164_175, Q_NB175_164, Q_BK174_e11, Q_BK175_e12, Q_X9_, Q_X10_⟩ hb_ hon hoff
            refine ⟨_, rfl, fun K hK => ?_⟩
            have e20 : a.tmps[20]? = some (.tuple #[.agg #[.int .i64 t169, .int .i64 t170], .agg #[.int .i64 t171, .int .i64 t172], .bool t173]) := by rw [ha]; exact putSel_on (e := (5, 20, .tuple #[.agg #[.int .i64 t169, .int .i64 t170], .agg #[.int .i64 t171, .int .i64 t172], .bool t173])) 5 rfl rfl (hon 5 (by kernel_rfl)) rfl
            replace ha := Aside0.mk ha
            have BK152 := Aside0.mk Q_BK152
            have BK153 := Aside0.mk Q_BK153
            have BK163 := Aside0.mk Q_BK163
            have BK164 := Aside0.mk Q_BK164
            have HB := Aside0.mk Q_HB
            refine value_ (w1 := w') (v := .agg #[.int .i64 t169, .int .i64 t170]) (by rfl) rfl ?_ ?_
            · go_simp
              (try simp only [i64_w])
              try rfl
            refine hK.out _ _ ⟨gb174, gb175, m9_, m10_, (by rw [ha.out]; exact putSel_upk 6 hb_ rfl rfl rfl), Q_BK152, Q_BK153, Q_BK163, Q_BK164, Q_HB, Q_NB175_174, Q_NB174_175, Q_BK174, Q_GW174, Q_GE174, Q_NB152_174, Q_NB174_152, Q_NB153_174, Q_NB174_153, Q_NB163_174, Q_NB174_163, Q_NB164_174, Q_NB174_164, Q_BK175, Q_GW175, Q_GE175, Q_NB152_175, Q_NB175_152, Q_NB153_175, Q_NB175_153, Q_NB163_175, Q_NB175_163, Q_NB164_175, Q_NB175_164, fun h0_ => absurd ((hoff 11 (by kernel_rfl)).symm.trans h0_) (by decide), fun h0_ => absurd ((hoff 12 (by kernel_rfl)).symm.trans h0_) (by decide), Q_X9_, Q_X10_⟩
          refine steps_cons ?_ ?_
          · rintro b a w' ⟨gb174, gb175, m9_, m10_, ha, Q_BK152, Q_BK153, Q_BK163, Q_BK164, Q_HB, Q_NB175_174, Q_NB174_175, Q_BK174, Q_GW174, Q_GE174, Q_NB152_174, Q_NB174_152, Q_NB153_174, Q_NB174_153, Q_NB163_174, Q_NB174_163, Q_NB164_174, Q_NB174_164, Q_BK175, Q_GW175, Q_GE175, Q_NB152_175, Q_NB175_152, Q_NB153_175, Q_NB175_153, Q_NB163_175, Q_NB175_163, Q_NB164_175, Q_NB175_164, Q_BK174_e11, Q_BK175_e12, Q_X9_, Q_X10_⟩ hb_ hon hoff
            refine ⟨_, rfl, fun K hK => ?_⟩
            have e20 : a.tmps[20]? = some (.tuple #[.agg #[.int .i64 t169, .int .i64 t170], .agg #[.int .i64 t171, .int .i64 t172], .bool t173]) := by rw [ha]; exact putSel_on (e := (5, 20, .tuple #[.agg #[.int .i64 t169, .int .i64 t170], .agg #[.int .i64 t171, .int .i64 t172], .bool t173])) 5 rfl rfl (hon 5 (by kernel_rfl)) rfl
            replace ha := Aside0.mk ha
            have BK152 := Aside0.mk Q_BK152
            have BK153 := Aside0.mk Q_BK153
            have BK163 := Aside0.mk Q_BK163
            have BK164 := Aside0.mk Q_BK164
            have HB := Aside0.mk Q_HB
            refine value_ (w1 := w') (v := .agg #[.int .i64 t171, .int .i64 t172]) (by rfl) rfl ?_ ?_
            · go_simp
              (try simp only [i64_w])
              try rfl
            refine hK.out _ _ ⟨gb174, gb175, m9_, m10_, (by rw [ha.out]; exact putSel_upk 7 hb_ rfl rfl rfl), Q_BK152, Q_BK153, Q_BK163, Q_BK164, Q_HB, Q_NB175_174, Q_NB174_175, Q_BK174, Q_GW174, Q_GE174, Q_NB152_174, Q_NB174_152, Q_NB153_174, Q_NB174_153, Q_NB163_174, Q_NB174_163, Q_NB164_174, Q_NB174_164, Q_BK175, Q_GW175, Q_GE175, Q_NB152_175, Q_NB175_152, Q_NB153_175, Q_NB175_153, Q_NB163_175, Q_NB175_163, Q_NB164_175, Q_NB175_164, Q_BK174_e11, fun h0_ => absurd ((hoff 12 (by kernel_rfl)).symm.trans h0_) (by decide), Q_X9_, Q_X10_⟩
          refine steps_cons ?_ ?_
          · rintro b a w' ⟨gb174, gb175, m9_, m10_, ha, Q_BK152, Q_BK153, Q_BK163, Q_BK164, Q_HB, Q_NB175_174, Q_NB174_175, Q_BK174, Q_GW174, Q_GE174, Q_NB152_174, Q_NB174_152, Q_NB153_174, Q_NB174_153, Q_NB163_174, Q_NB174_163, Q_NB164_174, Q_NB174_164, Q_BK175, Q_GW175, Q_GE175, Q_NB152_175, Q_NB175_152, Q_NB153_175, Q_NB175_153, Q_NB163_175, Q_NB175_163, Q_NB164_175, Q_NB175_164, Q_BK174_e11, Q_BK175_e12, Q_X9_, Q_X10_⟩ hb_ hon hoff
            refine ⟨_, rfl, fun K hK => ?_⟩
            have e20 : a.tmps[20]? = some (.tuple #[.agg #[.int .i64 t169, .int .i64 t170], .agg #[.int .i64 t171, .int .i64 t172], .bool t173]) := by rw [ha]; exact putSel_on (e := (5, 20, .tuple #[.agg #[.int .i64 t169, .int .i64 t170], .agg #[.int .i64 t171, .int .i64 t172], .bool t173])) 5 rfl rfl (hon 5 (by kernel_rfl)) rfl
            replace ha := Aside0.mk ha
            have BK152 := Aside0.mk Q_BK152
            have BK153 := Aside0.mk Q_BK153
            have BK163 := Aside0.mk Q_BK163
            have BK164 := Aside0.mk Q_BK164
            have HB := Aside0.mk Q_HB
            refine value_ (w1 := w') (v := .bool t173) (by rfl) rfl ?_ ?_
            · go_simp
              (try simp only [i64_w])
              try rfl
            refine hK.out _ _ ⟨gb174, gb175, m9_, m10_, (by rw [ha.out]; exact putSel_upk 8 hb_ rfl rfl rfl), Q_BK152, Q_BK153, Q_BK163, Q_BK164, Q_HB, Q_NB175_174, Q_NB174_175, Q_BK174, Q_GW174, Q_GE174, Q_NB152_174, Q_NB174_152, Q_NB153_174, Q_NB174_153, Q_NB163_174, Q_NB174_163, Q_NB164_174, Q_NB174_164, Q_BK175, Q_GW175, Q_GE175, Q_NB152_175, Q_NB175_152, Q_NB153_175, Q_NB175_153, Q_NB163_175, Q_NB175_163, Q_NB164_175, Q_NB175_164, Q_BK174_e11, Q_BK175_e12, Q_X9_, Q_X10_⟩
          refine steps_cons ?_ ?_
          · rintro b a w' ⟨gb174, gb175, m9_, m10_, ha, Q_BK152, Q_BK153, Q_BK163, Q_BK164, Q_HB, Q_NB175_174, Q_NB174_175, Q_BK174, Q_GW174, Q_GE174, Q_NB152_174, Q_NB174_152, Q_NB153_174, Q_NB174_153, Q_NB163_174, Q_NB174_163, Q_NB164_174, Q_NB174_164, Q_BK175, Q_GW175, Q_GE175, Q_NB152_175, Q_NB175_152, Q_NB153_175, Q_NB175_153, Q_NB163_175, Q_NB175_163, Q_NB164_175, Q_NB175_164, Q_BK174_e11, Q_BK175_e12, Q_X9_, Q_X10_⟩ hb_ hon hoff
            refine ⟨_, rfl, fun K hK => ?_⟩
            replace ha := Aside0.mk ha
            have BK152 := Aside0.mk Q_BK152
            have BK153 := Aside0.mk Q_BK153
            have BK163 := Aside0.mk Q_BK163
            have BK164 := Aside0.mk Q_BK164
            have HB := Aside0.mk Q_HB
            refine box_step ?hg (N := 8) ?hd (cs := #[.int .i64 0, .int .i64 0]) (t := 31) ?hr ?_; (case hd => rfl); (case hg => rfl); (case hr => first | (go_simp; done) | (go_simp; rfl))
            intro gb174 hg w28 hbox hb
            have n0_ := Aside0.mk (blk_below (g := gb152) (o := .cells #[.int .i64 a0_0, .int .i64 a0_1] 29 (0, 0)) (by (with_reducible repeat (first | refine blk_drewN ?_ _ | refine blk_drew ?_ | refine blk_alloc ?_ _)); exact BK152.out) hb)
            have n1_ := Aside0.mk (blk_below (g := gb153) (o := .cells #[.int .i64 a1_0, .int .i64 a1_1] 29 (0, 0)) (by (with_reducible repeat (first | refine blk_drewN ?_ _ | refine blk_drew ?_ | refine blk_alloc ?_ _)); exact BK153.out) hb)
            have n2_ := Aside0.mk (blk_below (g := gb163) (o := .cells #[.int .i64 t158, .int .i64 t159] 31 (0, 0)) (by (with_reducible repeat (first | refine blk_drewN ?_ _ | refine blk_drew ?_ | refine blk_alloc ?_ _)); exact BK163.out) hb)
            have n3_ := Aside0.mk (blk_below (g := gb164) (o := .cells #[.int .i64 t160, .int .i64 t161] 31 (0, 0)) (by (with_reducible repeat (first | refine blk_drewN ?_ _ | refine blk_drew ?_ | refine blk_alloc ?_ _)); exact BK164.out) hb)
            have n4_ := Aside0.mk (below_step (by repeat (first | (with_reducible first | exact HB.out | apply below_alloc | apply pw_below_drewN | apply below_drew1 | refine below_set ?_ GE152.out | refine below_set ?_ GE153.out | refine below_set ?_ GE163.out | refine below_set ?_ GE164.out) | exact HB.out)) hb)
            have n5_ := Aside0.mk (hbox)
            have n6_ := Aside0.mk ((by rw [hg]; exact (below_size (by repeat (first | (with_reducible first | exact HB.out | apply below_alloc | apply pw_below_drewN | apply below_drew1 | refine below_set ?_ GE152.out | refine below_set ?_ GE153.out | refine below_set ?_ GE163.out | refine below_set ?_ GE164.out) | exact HB.out))) : w.heap.size ≤ gb174))
            have n7_ := Aside0.mk ((by rw [hg]; exact (below_size (by repeat (first | (with_reducible first | exact HB.out | apply below_alloc | apply pw_below_drewN | apply below_drew1 | refine below_set ?_ GE152.out | refine below_set ?_ GE153.out | refine below_set ?_ GE163.out | refine below_set ?_ GE164.out) | exact HB.out))) : w.heap.size ≤ gb174))
            have n8_ := Aside0.mk ((by rw [hg]; exact Nat.ne_of_lt (blk_lt (g := gb152) (o := .cells #[.int .i64 a0_0, .int .i64 a0_1] 29 (0, 0)) (by (with_reducible repeat (first | refine blk_drewN ?_ _ | refine blk_drew ?_ | refine blk_alloc ?_ _)); exact BK152.out)) : gb152 ≠ gb174))
            have n9_ := Aside0.mk ((by rw [hg]; exact Nat.ne_of_gt (blk_lt (g := gb152) (o := .cells #[.int .i64 a0_0, .int .i64 a0_1] 29 (0, 0)) (by (with_reducible repeat (first | refine blk_drewN ?_ _ | refine blk_drew ?_ | refine blk_alloc ?_ _)); exact BK152.out)) : gb174 ≠ gb152))
            have n10_ := Aside0.mk ((by rw [hg]; exact Nat.ne_of_lt (blk_lt (g := gb153) (o := .cells #[.int .i64 a1_0, .int .i64 a1_1] 29 (0, 0)) (by (with_reducible repeat (first | refine blk_drewN ?_ _ | refine blk_drew ?_ | refine blk_alloc ?_ _)); exact BK153.out)) : gb153 ≠ gb174))
            have n11_ := Aside0.mk ((by rw [hg]; exact Nat.ne_of_gt (blk_lt (g := gb153) (o := .cells #[.int .i64 a1_0, .int .i64 a1_1] 29 (0, 0)) (by (with_reducible repeat (first | refine blk_drewN ?_ _ | refine blk_drew ?_ | refine blk_alloc ?_ _)); exact BK153.out)) : gb174 ≠ gb153))
            have n12_ := Aside0.mk ((by rw [hg]; exact Nat.ne_of_lt (blk_lt (g := gb163) (o := .cells #[.int .i64 t158, .int .i64 t159] 31 (0, 0)) (by (with_reducible repeat (first | refine blk_drewN ?_ _ | refine blk_drew ?_ | refine blk_alloc ?_ _)); exact BK163.out)) : gb163 ≠ gb174))
            have n13_ := Aside0.mk ((by rw [hg]; exact Nat.ne_of_gt (blk_lt (g := gb163) (o := .cells #[.int .i64 t158, .int .i64 t159] 31 (0, 0)) (by (with_reducible repeat (first | refine blk_drewN ?_ _ | refine blk_drew ?_ | refine blk_alloc ?_ _)); exact BK163.out)) : gb174 ≠ gb163))
            have n14_ := Aside0.mk ((by rw [hg]; exact Nat.ne_of_lt (blk_lt (g := gb164) (o := .cells #[.int .i64 t160, .int .i64 t161] 31 (0, 0)) (by (with_reducible repeat (first | refine blk_drewN ?_ _ | refine blk_drew ?_ | refine blk_alloc ?_ _)); exact BK164.out)) : gb164 ≠ gb174))
            have n15_ := Aside0.mk ((by rw [hg]; exact Nat.ne_of_gt (blk_lt (g := gb164) (o := .cells #[.int .i64 t160, .int .i64 t161] 31 (0, 0)) (by (with_reducible repeat (first | refine blk_drewN ?_ _ | refine blk_drew ?_ | refine blk_alloc ?_ _)); exact BK164.out)) : gb174 ≠ gb164))
            have z_NB175_174 := fun (h0_ : up b 9 9 = true) (h1_ : up b 9 10 = true) => (show gb175 ≠ gb174 from ((by rw [hg]; exact Nat.ne_of_lt (blk_lt (g := gb175) (o := .cells #[.int .i64 0, .int .i64 0] 31 (0, 0)) (by (with_reducible repeat (first | refine blk_drewN ?_ _ | refine blk_drew ?_ | refine blk_alloc ?_ _)); exact (Q_BK175 h1_ (hoff 12 (by kernel_rfl))))) : gb175 ≠ gb174)))
            have z_NB174_175 := fun (h0_ : up b 9 9 = true) (h1_ : up b 9 10 = true) => (show gb174 ≠ gb175 from ((by rw [hg]; exact Nat.ne_of_gt (blk_lt (g := gb175) (o := .cells #[.int .i64 0, .int .i64 0] 31 (0, 0)) (by (with_reducible repeat (first | refine blk_drewN ?_ _ | refine blk_drew ?_ | refine blk_alloc ?_ _)); exact (Q_BK175 h1_ (hoff 12 (by kernel_rfl))))) : gb174 ≠ gb175)))
            have z_BK175 := fun (h0_ : b 10 = true) (h1_ : b 12 = false) => (show w28.heap[gb175]? = some (.cells #[.int .i64 0, .int .i64 0] 31 (0, 0)) from by first | exact (blk_below (g := gb175) (o := .cells #[.int .i64 0, .int .i64 0] 31 (0, 0)) (by (with_reducible repeat (first | refine blk_drewN ?_ _ | refine blk_drew ?_ | refine blk_alloc ?_ _)); exact (Q_BK175 h0_ h1_)) hb))
            clear BK152
            clear BK153
            clear BK163
            clear BK164
            clear HB
            have BK152 := n0_
            have BK153 := n1_
            have BK163 := n2_
            have BK164 := n3_
            have HB := n4_
            have BK174 := n5_
            have GW174 := n6_
            have GE174 := n7_
            have NB152_174 := n8_
            have NB174_152 := n9_
            have NB153_174 := n10_
            have NB174_153 := n11_
            have NB163_174 := n12_
            have NB174_163 := n13_
            have NB164_174 := n14_
            have NB174_164 := n15_
            clear n0_ n1_ n2_ n3_ n4_ n5_ n6_ n7_ n8_ n9_ n10_ n11_ n12_ n13_ n14_ n15_
            clear hb hbox hg
            refine hK.out _ _ ⟨gb174, gb175, (.pointer (some ⟨gb174, 0, none⟩)), m10_, (by rw [ha.out]; exact putSel_upk 9 hb_ rfl rfl rfl), (by (with_reducible repeat (first | refine blk_drewN ?_ _ | refine blk_drew ?_ | refine blk_alloc ?_ _)); exact BK152.out), (by (with_reducible repeat (first | refine blk_drewN ?_ _ | refine blk_drew ?_ | refine blk_alloc ?_ _)); exact BK153.out), (by (with_reducible repeat (first | refine blk_drewN ?_ _ | refine blk_drew ?_ | refine blk_alloc ?_ _)); exact BK163.out), (by (with_reducible repeat (first | refine blk_drewN ?_ _ | refine blk_drew ?_ | refine blk_alloc ?_ _)); exact BK164.out), (by repeat (first | (with_reducible first | exact HB.out | apply below_alloc | apply pw_below_drewN | apply below_drew1 | refine below_set ?_ GE152.out | refine below_set ?_ GE153.out | refine below_set ?_ GE163.out | refine below_set ?_ GE164.out | refine below_set ?_ GE174.out) | exact HB.out)), z_NB175_174, z_NB174_175, fun _ _ => (by (with_reducible repeat (first | refine blk_drewN ?_ _ | refine blk_drew ?_ | refine blk_alloc ?_ _)); exact BK174.out), fun _ => GW174.out, fun _ => GE174.out, fun _ => NB152_174.out, fun _ => NB174_152.out, fun _ => NB153_174.out, fun _ => NB174_153.out, fun _ => NB163_174.out, fun _ => NB174_163.out, fun _ => NB164_174.out, fun _ => NB174_164.out, z_BK175, Q_GW175, Q_GE175, Q_NB152_175, Q_NB175_152, Q_NB153_175, Q_NB175_153, Q_NB163_175, Q_NB175_163, Q_NB164_175, Q_NB175_164, fun h0_ => absurd ((hoff 11 (by kernel_rfl)).symm.trans h0_) (by decide), fun h0_ => absurd ((hoff 12 (by kernel_rfl)).symm.trans h0_) (by decide), fun _ => rfl, Q_X10_⟩
          refine steps_cons ?_ ?_
          · rintro b a w' ⟨gb174, gb175, m9_, m10_, ha, Q_BK152, Q_BK153, Q_BK163, Q_BK164, Q_HB, Q_NB175_174, Q_NB174_175, Q_BK174, Q_GW174, Q_GE174, Q_NB152_174, Q_NB174_152, Q_NB153_174, Q_NB174_153, Q_NB163_174, Q_NB174_163, Q_NB164_174, Q_NB174_164, Q_BK175, Q_GW175, Q_GE175, Q_NB152_175, Q_NB175_152, Q_NB153_175, Q_NB175_153, Q_NB163_175, Q_NB175_163, Q_NB164_175, Q_NB175_164, Q_BK174_e11, Q_BK175_e12, Q_X9_, Q_X10_⟩ hb_ hon hoff
            refine ⟨_, rfl, fun K hK => ?_⟩
            replace ha := Aside0.mk ha
            have BK152 := Aside0.mk Q_BK152
            have BK153 := Aside0.mk Q_BK153
            have BK163 := Aside0.mk Q_BK163
            have BK164 := Aside0.mk Q_BK164
            have HB := Aside0.mk Q_HB
            refine box_step ?hg (N := 9) ?hd (cs := #[.int .i64 0, .int .i64 0]) (t := 31) ?hr ?_; (case hd => rfl); (case hg => rfl); (case hr => first | (go_simp; done) | (go_simp; rfl))
            intro gb175 hg w28 hbox hb
            have n0_ := Aside0.mk (blk_below (g := gb152) (o := .cells #[.int .i64 a0_0, .int .i64 a0_1] 29 (0, 0)) (by (with_reducible repeat (first | refine blk_drewN ?_ _ | refine blk_drew ?_ | refine blk_alloc ?_ _)); exact BK152.out) hb)
            have n1_ := Aside0.mk (blk_below (g := gb153) (o := .cells #[.int .i64 a1_0, .int .i64 a1_1] 29 (0, 0)) (by (with_reducible repeat (first | refine blk_drewN ?_ _ | refine blk_drew ?_ | refine blk_alloc ?_ _)); exact BK153.out) hb)
            have n2_ := Aside0.mk (blk_below (g := gb163) (o := .cells #[.int .i64 t158, .int .i64 t159] 31 (0, 0)) (by (with_reducible repeat (first | refine blk_drewN ?_ _ | refine blk_drew ?_ | refine blk_alloc ?_ _)); exact BK163.out) hb)
            have n3_ := Aside0.mk (blk_below (g := gb164) (o := .cells #[.int .i64 t160, .int .i64 t161] 31 (0, 0)) (by (with_reducible repeat (first | refine blk_drewN ?_ _ | refine blk_drew ?_ | refine blk_alloc ?_ _)); exact BK164.out) hb)
            have n4_ := Aside0.mk (below_step (by repeat (first | (with_reducible first | exact HB.out | apply below_alloc | apply pw_below_drewN | apply below_drew1 | refine below_set ?_ GE152.out | refine below_set ?_ GE153.out | refine below_set ?_ GE163.out | refine below_set ?_ GE164.out) | exact HB.out)) hb)
            have n5_ := Aside0.mk (hbox)
            have n6_ := Aside0.mk ((by rw [hg]; exact (below_size (by repeat (first | (with_reducible first | exact HB.out | apply below_alloc | apply pw_below_drewN | apply below_drew1 | refine below_set ?_ GE152.out | refine below_set ?_ GE153.out | refine below_set ?_ GE163.out | refine below_set ?_ GE164.out) | exact HB.out))) : w.heap.size ≤ gb175))
            have n7_ := Aside0.mk ((by rw [hg]; exact (below_size (by repeat (first | (with_reducible first | exact HB.out | apply below_alloc | apply pw_below_drewN | apply below_drew1 | refine below_set ?_ GE152.out | refine below_set ?_ GE153.out | refine below_set ?_ GE163.out | refine below_set ?_ GE164.out) | exact HB.out))) : w.heap.size ≤ gb175))
            have n8_ := Aside0.mk ((by rw [hg]; exact Nat.ne_of_lt (blk_lt (g := gb152) (o := .cells #[.int .i64 a0_0, .int .i64 a0_1] 29 (0, 0)) (by (with_reducible repeat (first | refine blk_drewN ?_ _ | refine blk_drew ?_ | refine blk_alloc ?_ _)); exact BK152.out)) : gb152 ≠ gb175))
            have n9_ := Aside0.mk ((by rw [hg]; exact Nat.ne_of_gt (blk_lt (g := gb152) (o := .cells #[.int .i64 a0_0, .int .i64 a0_1] 29 (0, 0)) (by (with_reducible repeat (first | refine blk_drewN ?_ _ | refine blk_drew ?_ | refine blk_alloc ?_ _)); exact BK152.out)) : gb175 ≠ gb152))
            have n10_ := Aside0.mk ((by rw [hg]; exact Nat.ne_of_lt (blk_lt (g := gb153) (o := .cells #[.int .i64 a1_0, .int .i64 a1_1] 29 (0, 0)) (by (with_reducible repeat (first | refine blk_drewN ?_ _ | refine blk_drew ?_ | refine blk_alloc ?_ _)); exact BK153.out)) : gb153 ≠ gb175))
            have n11_ := Aside0.mk ((by rw [hg]; exact Nat.ne_of_gt (blk_lt (g := gb153) (o := .cells #[.int .i64 a1_0, .int .i64 a1_1] 29 (0, 0)) (by (with_reducible repeat (first | refine blk_drewN ?_ _ | refine blk_drew ?_ | refine blk_alloc ?_ _)); exact BK153.out)) : gb175 ≠ gb153))
            have n12_ := Aside0.mk ((by rw [hg]; exact Nat.ne_of_lt (blk_lt (g := gb163) (o := .cells #[.int .i64 t158, .int .i64 t159] 31 (0, 0)) (by (with_reducible repeat (first | refine blk_drewN ?_ _ | refine blk_drew ?_ | refine blk_alloc ?_ _)); exact BK163.out)) : gb163 ≠ gb175))
            have n13_ := Aside0.mk ((by rw [hg]; exact Nat.ne_of_gt (blk_lt (g := gb163) (o := .cells #[.int .i64 t158, .int .i64 t159] 31 (0, 0)) (by (with_reducible repeat (first | refine blk_drewN ?_ _ | refine blk_drew ?_ | refine blk_alloc ?_ _)); exact BK163.out)) : gb175 ≠ gb163))
            have n14_ := Aside0.mk ((by rw [hg]; exact Nat.ne_of_lt (blk_lt (g := gb164) (o := .cells #[.int .i64 t160, .int .i64 t161] 31 (0, 0)) (by (with_reducible repeat (first | refine blk_drewN ?_ _ | refine blk_drew ?_ | refine blk_alloc ?_ _)); exact BK164.out)) : gb164 ≠ gb175))
            have n15_ := Aside0.mk ((by rw [hg]; exact Nat.ne_of_gt (blk_lt (g := gb164) (o := .cells #[.int .i64 t160, .int .i64 t161] 31 (0, 0)) (by (with_reducible repeat (first | refine blk_drewN ?_ _ | refine blk_drew ?_ | refine blk_alloc ?_ _)); exact BK164.out)) : gb175 ≠ gb164))
            have z_NB175_174 := fun (h0_ : up b 10 9 = true) (h1_ : up b 10 10 = true) => (show gb175 ≠ gb174 from ((by rw [hg]; exact Nat.ne_of_gt (blk_lt (g := gb174) (o := .cells #[.int .i64 0, .int .i64 0] 31 (0, 0)) (by (with_reducible repeat (first | refine blk_drewN ?_ _ | refine blk_drew ?_ | refine blk_alloc ?_ _)); exact (Q_BK174 h0_ (hoff 11 (by kernel_rfl))))) : gb175 ≠ gb174)))
            have z_NB174_175 := fun (h0_ : up b 10 9 = true) (h1_ : up b 10 10 = true) => (show gb174 ≠ gb175 from ((by rw [hg]; exact Nat.ne_of_lt (blk_lt (g := gb174) (o := .cells #[.int .i64 0, .int .i64 0] 31 (0, 0)) (by (with_reducible repeat (first | refine blk_drewN ?_ _ | refine blk_drew ?_ | refine blk_alloc ?_ _)); exact (Q_BK174 h0_ (hoff 11 (by kernel_rfl))))) : gb174 ≠ gb175)))
            have z_BK174 := fun (h0_ : b 9 = true) (h1_ : b 11 = false) => (show w28.heap[gb174]? = some (.cells #[.int .i64 0, .int .i64 0] 31 (0, 0)) from by first | exact (blk_below (g := gb174) (o := .cells #[.int .i64 0, .int .i64 0] 31 (0, 0)) (by (with_reducible repeat (first | refine blk_drewN ?_ _ | refine blk_drew ?_ | refine blk_alloc ?_ _)); exact (Q_BK174 h0_ h1_)) hb))
            clear BK152
            clear BK153
            clear BK163
            clear BK164
            clear HB
            have BK152 := n0_
            have BK153 := n1_
            have BK163 := n2_
            have BK164 := n3_
            have HB := n4_
            have BK175 := n5_
            have GW175 := n6_
            have GE175 := n7_
            have NB152_175 := n8_
            have NB175_152 := n9_
            have NB153_175 := n10_
            have NB175_153 := n11_
            have NB163_175 := n12_
            have NB175_163 := n13_
            have NB164_175 := n14_
            have NB175_164 := n15_
            clear n0_ n1_ n2_ n3_ n4_ n5_ n6_ n7_ n8_ n9_ n10_ n11_ n12_ n13_ n14_ n15_
            clear hb hbox hg
            refine hK.out _ _ ⟨gb174, gb175, m9_, (.pointer (some ⟨gb175, 0, none⟩)), (by rw [ha.out]; exact putSel_upk 10 hb_ rfl rfl rfl), (by (with_reducible repeat (first | refine blk_drewN ?_ _ | refine blk_drew ?_ | refine blk_alloc ?_ _)); exact BK152.out), (by (with_reducible repeat (first | refine blk_drewN ?_ _ | refine blk_drew ?_ | refine blk_alloc ?_ _)); exact BK153.out), (by (with_reducible repeat (first | refine blk_drewN ?_ _ | refine blk_drew ?_ | refine blk_alloc ?_ _)); exact BK163.out), (by (with_reducible repeat (first | refine blk_drewN ?_ _ | refine blk_drew ?_ | refine blk_alloc ?_ _)); exact BK164.out), (by repeat (first | (with_reducible first | exact HB.out | apply below_alloc | apply pw_below_drewN | apply below_drew1 | refine below_set ?_ GE152.out | refine below_set ?_ GE153.out | refine below_set ?_ GE163.out | refine below_set ?_ GE164.out | refine below_set ?_ GE175.out) | exact HB.out)), z_NB175_174, z_NB174_175, z_BK174, Q_GW174, Q_GE174, Q_NB152_174, Q_NB174_152, Q_NB153_174, Q_NB174_153, Q_NB163_174, Q_NB174_163, Q_NB164_174, Q_NB174_164, fun _ _ => (by (with_reducible repeat (first | refine blk_drewN ?_ _ | refine blk_drew ?_ | refine blk_alloc ?_ _)); exact BK175.out), fun _ => GW175.out, fun _ => GE175.out, fun _ => NB152_175.out, fun _ => NB175_152.out, fun _ => NB153_175.out, fun _ => NB175_153.out, fun _ => NB163_175.out, fun _ => NB175_163.out, fun _ => NB164_175.out, fun _ => NB175_164.out, fun h0_ => absurd ((hoff 11 (by kernel_rfl)).symm.trans h0_) (by decide), fun h0_ => absurd ((hoff 12 (by kernel_rfl)).symm.trans h0_) (by decide), Q_X9_, fun _ => rfl⟩
          refine steps_cons ?_ ?_
          · rintro b a w' ⟨gb174, gb175, m9_, m10_, ha, Q_BK152, Q_BK153, Q_BK163, Q_BK164, Q_HB, Q_NB175_174, Q_NB174_175, Q_BK174, Q_GW174, Q_GE174, Q_NB152_174, Q_NB174_152, Q_NB153_174, Q_NB174_153, Q_NB163_174, Q_NB174_163, Q_NB164_174, Q_NB174_164, Q_BK175, Q_GW175, Q_GE175, Q_NB152_175, Q_NB175_152, Q_NB153_175, Q_NB175_153, Q_NB163_175, Q_NB175_163, Q_NB164_175, Q_NB175_164, Q_BK174_e11, Q_BK175_e12, Q_X9_, Q_X10_⟩ hb_ hon hoff
            refine ⟨_, rfl, fun K hK => ?_⟩
            have e8 : a.tmps[8]? = some (m9_) := by rw [ha]; exact putSel_on (e := (9, 8, m9_)) 9 rfl rfl (hon 9 (by kernel_rfl)) rfl
            rw [Q_X9_ (hon 9 (by kernel_rfl))] at e8
            have e26 : a.tmps[26]? = some (.agg #[.int .i64 t169, .int .i64 t170]) := by rw [ha]; exact putSel_on (e := (6, 26, .agg #[.int .i64 t169, .int .i64 t170])) 6 rfl rfl (hon 6 (by kernel_rfl)) rfl
            replace ha := Aside0.mk ha
            have BK152 := Aside0.mk Q_BK152
            have BK153 := Aside0.mk Q_BK153
            have BK163 := Aside0.mk Q_BK163
            have BK164 := Aside0.mk Q_BK164
            have HB := Aside0.mk Q_HB
            have NB175_174 := Aside0.mk (Q_NB175_174 (hon 9 (by kernel_rfl)) (hon 10 (by kernel_rfl)))
            have NB174_175 := Aside0.mk (Q_NB174_175 (hon 9 (by kernel_rfl)) (hon 10 (by kernel_rfl)))
            have BK174 := Aside0.mk (Q_BK174 (hon 9 (by kernel_rfl)) hb_)
            have GW174 := Aside0.mk (Q_GW174 (hon 9 (by kernel_rfl)))
            have GE174 := Aside0.mk (Q_GE174 (hon 9 (by kernel_rfl)))
            have NB152_174 := Aside0.mk (Q_NB152_174 (hon 9 (by kernel_rfl)))
            have NB174_152 := Aside0.mk (Q_NB174_152 (hon 9 (by kernel_rfl)))
            have NB153_174 := Aside0.mk (Q_NB153_174 (hon 9 (by kernel_rfl)))
            have NB174_153 := Aside0.mk (Q_NB174_153 (hon 9 (by kernel_rfl)))
            have NB163_174 := Aside0.mk (Q_NB163_174 (hon 9 (by kernel_rfl)))
            have NB174_163 := Aside0.mk (Q_NB174_163 (hon 9 (by kernel_rfl)))
            have NB164_174 := Aside0.mk (Q_NB164_174 (hon 9 (by kernel_rfl)))
            have NB174_164 := Aside0.mk (Q_NB174_164 (hon 9 (by kernel_rfl)))
            have BK175 := Aside0.mk (Q_BK175 (hon 10 (by kernel_rfl)) (hoff 12 (by kernel_rfl)))
            have GW175 := Aside0.mk (Q_GW175 (hon 10 (by kernel_rfl)))
            have GE175 := Aside0.mk (Q_GE175 (hon 10 (by kernel_rfl)))
            have NB152_175 := Aside0.mk (Q_NB152_175 (hon 10 (by kernel_rfl)))
            have NB175_152 := Aside0.mk (Q_NB175_152 (hon 10 (by kernel_rfl)))
            have NB153_175 := Aside0.mk (Q_NB153_175 (hon 10 (by kernel_rfl)))
            have NB175_153 := Aside0.mk (Q_NB175_153 (hon 10 (by kernel_rfl)))
            have NB163_175 := Aside0.mk (Q_NB163_175 (hon 10 (by kernel_rfl)))
            have NB175_163 := Aside0.mk (Q_NB175_163 (hon 10 (by kernel_rfl)))
            have NB164_175 := Aside0.mk (Q_NB164_175 (hon 10 (by kernel_rfl)))
            have NB175_164 := Aside0.mk (Q_NB175_164 (hon 10 (by kernel_rfl)))
            have hs34 : w'.cell? ⟨gb174, 0, none⟩ = some (.int .i64 0) := (blk_cell BK174.out 0).trans rfl
            have hfs34 := blk_frozen BK174.out 0
            have hns34_0 := NB152_174.out
            have hns34_1 := NB153_174.out
            have hns34_2 := NB163_174.out
            have hns34_3 := NB164_174.out
            have hns34_5 := NB175_174.out
            have hms34_0 := NB174_152.out
            have hms34_1 := NB174_153.out
            have hms34_2 := NB174_163.out
            have hms34_3 := NB174_164.out
            have hms34_5 := NB174_175.out
            have hs35 : w'.cell? ⟨gb174, 1, none⟩ = some (.int .i64 0) := (blk_cell BK174.out 1).trans rfl
            have hfs35 := blk_frozen BK174.out 1
            have hns35_0 := NB152_174.out
            have hns35_1 := NB153_174.out
            have hns35_2 := NB163_174.out
            have hns35_3 := NB164_174.out
            have hns35_5 := NB175_174.out
            have hms35_0 := NB174_152.out
            have hms35_1 := NB174_153.out
            have hms35_2 := NB174_163.out
            have hms35_3 := NB174_164.out
            have hms35_5 := NB174_175.out
            refine skip_ (w1 := ?_) (by rfl) rfl ?_ ?_
            rotate_left
            · go_simp
              rfl
            refine hK.out _ _ ⟨gb174, gb175, m9_, m10_, (by rw [ha.out]; exact putSel_none (v := undef) rfl), (by (with_reducible repeat (first | refine blk_drewN ?_ _ | refine blk_drew ?_ | refine blk_alloc ?_ _)); refine blk_far ?_ NB152_174.out _; (with_reducible repeat (first | refine blk_drewN ?_ _ | refine blk_drew ?_ | refine blk_alloc ?_ _)); refine blk_far ?_ NB152_174.out _; (with_reducible repeat (first | refine blk_drewN ?_ _ | refine blk_drew ?_ | refine blk_alloc ?_ _)); exact BK152.out), (by (with_reducible repeat (first | refine blk_drewN ?_ _ | refine blk_drew ?_ | refine blk_alloc ?_ _)); refine blk_far ?_ NB153_174.out _; (with_reducible repeat (first | refine blk_drewN ?_ _ | refine blk_drew ?_ | refine blk_alloc ?_ _)); refine blk_far ?_ NB153_174.out _; (with_reducible repeat (first | refine blk_drewN ?_ _ | refine blk_drew ?_ | refine blk_alloc ?_ _)); exact BK153.out), (by (with_reducible repeat (first | refine blk_drewN ?_ _ | refine blk_drew ?_ | refine blk_alloc ?_ _)); refine blk_far ?_ NB163_174.out _; (with_reducible repeat (first | refine blk_drewN ?_ _ | refine blk_drew ?_ | refine blk_alloc ?_ _)); refine blk_far ?_ NB163_174.out _; (with_reducible repeat (first | refine blk_drewN ?_ _ | refine blk_drew ?_ | refine blk_alloc ?_ _)); exact BK163.out), (by (with_reducible repeat (first | refine blk_drewN ?_ _ | refine blk_drew ?_ | refine blk_alloc ?_ _)); refine blk_far ?_ NB164_174.out _; (with_reducible repeat (first | refine blk_drewN ?_ _ | refine blk_drew ?_ | refine blk_alloc ?_ _)); refine blk_far ?_ NB164_174.out _; (with_reducible repeat (first | refine blk_drewN ?_ _ | refine blk_drew ?_ | refine blk_alloc ?_ _)); exact BK164.out), (by repeat (first | (with_reducible first | exact HB.out | apply below_alloc | apply pw_below_drewN | apply below_drew1 | refine below_set ?_ GE152.out | refine below_set ?_ GE153.out | refine below_set ?_ GE163.out | refine below_set ?_ GE164.out | refine below_set ?_ GE174.out | refine below_set ?_ GE175.out) | exact HB.out)), fun _ _ => NB175_174.out, fun _ _ => NB174_175.out, fun _ h1_ => absurd ((up_self b 11).symm.trans h1_) (by decide), fun _ => GW174.out, fun _ => GE174.out, fun _ => NB152_174.out, fun _ => NB174_152.out, fun _ => NB153_174.out, fun _ => NB174_153.out, fun _ => NB163_174.out, fun _ => NB174_163.out, fun _ => NB164_174.out, fun _ => NB174_164.out, fun _ _ => (by (with_reducible repeat (first | refine blk_drewN ?_ _ | refine blk_drew ?_ | refine blk_alloc ?_ _)); refine blk_far ?_ NB175_174.out _; (with_reducible repeat (first | refine blk_drewN ?_ _ | refine blk_drew ?_ | refine blk_alloc ?_ _)); refine blk_far ?_ NB175_174.out _; (with_reducible repeat (first | refine blk_drewN ?_ _ | refine blk_drew ?_ | refine blk_alloc ?_ _)); exact BK175.out), fun _ => GW175.out, fun _ => GE175.out, fun _ => NB152_175.out, fun _ => NB175_152.out, fun _ => NB153_175.out, fun _ => NB175_153.out, fun _ => NB163_175.out, fun _ => NB175_163.out, fun _ => NB164_175.out, fun _ => NB175_164.out, fun _ => (by (with_reducible repeat (first | refine blk_drewN ?_ _ | refine blk_drew ?_ | refine blk_alloc ?_ _)); refine blk_put (cs := #[.int .i64 t169, .int .i64 0]) ?_ 1 _ rfl; (with_reducible repeat (first | refine blk_drewN ?_ _ | refine blk_drew ?_ | refine blk_alloc ?_ _)); refine blk_put (cs := #[.int .i64 0, .int .i64 0]) ?_ 0 _ rfl; (with_reducible repeat (first | refine blk_drewN ?_ _ | refine blk_drew ?_ | refine blk_alloc ?_ _)); exact BK174.out), fun h0_ => absurd ((hoff 12 (by kernel_rfl)).symm.trans h0_) (by decide), Q_X9_, Q_X10_⟩
          refine steps_cons ?_ ?_
          · rintro b a w' ⟨gb174, gb175, m9_, m10_, ha, Q_BK152, Q_BK153, Q_BK163, Q_BK164, Q_HB, Q_NB175_174, Q_NB174_175, Q_BK174, Q_GW174, Q_GE174, Q_NB152_174, Q_NB174_152, Q_NB153_174, Q_NB174_153, Q_NB163_174, Q_NB174_163, Q_NB164_174, Q_NB174_164, Q_BK175, Q_GW175, Q_GE175, Q_NB152_175, Q_NB175_152, Q_NB153_175, Q_NB175_153, Q_NB163_175, Q_NB175_163, Q_NB164_175, Q_NB175_164, Q_BK174_e11, Q_BK175_e12, Q_X9_, Q_X10_⟩ hb_ hon hoff
            refine ⟨_, rfl, fun K hK => ?_⟩
            have e9 : a.tmps[9]? = some (m10_) := by rw [ha]; exact putSel_on (e := (10, 9, m10_)) 10 rfl rfl (hon 10 (by kernel_rfl)) rfl
            rw [Q_X10_ (hon 10 (by kernel_rfl))] at e9
            have e27 : a.tmps[27]? = some (.agg #[.int .i64 t171, .int .i64 t172]) := by rw [ha]; exact putSel_on (e := (7, 27, .agg #[.int .i64 t171, .int .i64 t172])) 7 rfl rfl (hon 7 (by kernel_rfl)) rfl
            replace ha := Aside0.mk ha
            have BK152 := Aside0.mk Q_BK152
            have BK153 := Aside0.mk Q_BK153
            have BK163 := Aside0.mk Q_BK163
            have BK164 := Aside0.mk Q_BK164
            have HB := Aside0.mk Q_HB
            have NB175_174 := Aside0.mk (Q_NB175_174 (hon 9 (by kernel_rfl)) (hon 10 (by kernel_rfl)))
            have NB174_175 := Aside0.mk (Q_NB174_175 (hon 9 (by kernel_rfl)) (hon 10 (by kernel_rfl)))
            have GW174 := Aside0.mk (Q_GW174 (hon 9 (by kernel_rfl)))
            have GE174 := Aside0.mk (Q_GE174 (hon 9 (by kernel_rfl)))
            have NB152_174 := Aside0.mk (Q_NB152_174 (hon 9 (by kernel_rfl)))
            have NB174_152 := Aside0.mk (Q_NB174_152 (hon 9 (by kernel_rfl)))
            have NB153_174 := Aside0.mk (Q_NB153_174 (hon 9 (by kernel_rfl)))
            have NB174_153 := Aside0.mk (Q_NB174_153 (hon 9 (by kernel_rfl)))
            have NB163_174 := Aside0.mk (Q_NB163_174 (hon 9 (by kernel_rfl)))
            have NB174_163 := Aside0.mk (Q_NB174_163 (hon 9 (by kernel_rfl)))
            have NB164_174 := Aside0.mk (Q_NB164_174 (hon 9 (by kernel_rfl)))
            have NB174_164 := Aside0.mk (Q_NB174_164 (hon 9 (by kernel_rfl)))
            have BK175 := Aside0.mk (Q_BK175 (hon 10 (by kernel_rfl)) hb_)
            have GW175 := Aside0.mk (Q_GW175 (hon 10 (by kernel_rfl)))
            have GE175 := Aside0.mk (Q_GE175 (hon 10 (by kernel_rfl)))
            have NB152_175 := Aside0.mk (Q_NB152_175 (hon 10 (by kernel_rfl)))
            have NB175_152 := Aside0.mk (Q_NB175_152 (hon 10 (by kernel_rfl)))
            have NB153_175 := Aside0.mk (Q_NB153_175 (hon 10 (by kernel_rfl)))
            have NB175_153 := Aside0.mk (Q_NB175_153 (hon 10 (by kernel_rfl)))
            have NB163_175 := Aside0.mk (Q_NB163_175 (hon 10 (by kernel_rfl)))
            have NB175_163 := Aside0.mk (Q_NB175_163 (hon 10 (by kernel_rfl)))
            have NB164_175 := Aside0.mk (Q_NB164_175 (hon 10 (by kernel_rfl)))
            have NB175_164 := Aside0.mk (Q_NB175_164 (hon 10 (by kernel_rfl)))
            have BK174 := Aside0.mk (Q_BK174_e11 (hon 11 (by kernel_rfl)))
            have hs36 : w'.cell? ⟨gb175, 0, none⟩ = some (.int .i64 0) := (blk_cell BK175.out 0).trans rfl
            have hfs36 := blk_frozen BK175.out 0
            have hns36_0 := NB152_175.out
            have hns36_1 := NB153_175.out
            have hns36_2 := NB163_175.out
            have hns36_3 := NB164_175.out
            have hns36_4 := NB174_175.out
            have hms36_0 := NB175_152.out
            have hms36_1 := NB175_153.out
            have hms36_2 := NB175_163.out
            have hms36_3 := NB175_164.out
            have hms36_4 := NB175_174.out
            have hs37 : w'.cell? ⟨gb175, 1, none⟩ = some (.int .i64 0) := (blk_cell BK175.out 1).trans rfl
            have hfs37 := blk_frozen BK175.out 1
            have hns37_0 := NB152_175.out
            have hns37_1 := NB153_175.out
            have hns37_2 := NB163_175.out
            have hns37_3 := NB164_175.out
            have hns37_4 := NB174_175.out
            have hms37_0 := NB175_152.out
            have hms37_1 := NB175_153.out
            have hms37_2 := NB175_163.out
            have hms37_3 := NB175_164.out
            have hms37_4 := NB175_174.out
            refine skip_ (w1 := ?_) (by rfl) rfl ?_ ?_
            rotate_left
            · go_simp
              rfl
            refine hK.out _ _ ⟨gb174, gb175, m9_, m10_, (by rw [ha.out]; exact putSel_none (v := undef) rfl), (by (with_reducible repeat (first | refine blk_drewN ?_ _ | refine blk_drew ?_ | refine blk_alloc ?_ _)); refine blk_far ?_ NB152_175.out _; (with_reducible repeat (first | refine blk_drewN ?_ _ | refine blk_drew ?_ | refine blk_alloc ?_ _)); refine blk_far ?_ NB152_175.out _; (with_reducible repeat (first | refine blk_drewN ?_ _ | refine blk_drew ?_ | refine blk_alloc ?_ _)); exact BK152.out), (by (with_reducible repeat (first | refine blk_drewN ?_ _ | refine blk_drew ?_ | refine blk_alloc ?_ _)); refine blk_far ?_ NB153_175.out _; (with_reducible repeat (first | refine blk_drewN ?_ _ | refine blk_drew ?_ | refine blk_alloc ?_ _)); refine blk_far ?_ NB153_175.out _; (with_reducible repeat (first | refine blk_drewN ?_ _ | refine blk_drew ?_ | refine blk_alloc ?_ _)); exact BK153.out), (by (with_reducible repeat (first | refine blk_drewN ?_ _ | refine blk_drew ?_ | refine blk_alloc ?_ _)); refine blk_far ?_ NB163_175.out _; (with_reducible repeat (first | refine blk_drewN ?_ _ | refine blk_drew ?_ | refine blk_alloc ?_ _)); refine blk_far ?_ NB163_175.out _; (with_reducible repeat (first | refine blk_drewN ?_ _ | refine blk_drew ?_ | refine blk_alloc ?_ _)); exact BK163.out), (by (with_reducible repeat (first | refine blk_drewN ?_ _ | refine blk_drew ?_ | refine blk_alloc ?_ _)); refine blk_far ?_ NB164_175.out _; (with_reducible repeat (first | refine blk_drewN ?_ _ | refine blk_drew ?_ | refine blk_alloc ?_ _)); refine blk_far ?_ NB164_175.out _; (with_reducible repeat (first | refine blk_drewN ?_ _ | refine blk_drew ?_ | refine blk_alloc ?_ _)); exact BK164.out), (by repeat (first | (with_reducible first | exact HB.out | apply below_alloc | apply pw_below_drewN | apply below_drew1 | refine below_set ?_ GE152.out | refine below_set ?_ GE153.out | refine below_set ?_ GE163.out | refine below_set ?_ GE164.out | refine below_set ?_ GE174.out | refine below_set ?_ GE175.out) | exact HB.out)), fun _ _ => NB175_174.out, fun _ _ => NB174_175.out, fun _ h1_ => absurd ((hon 11 (by kernel_rfl)).symm.trans h1_) (by decide), fun _ => GW174.out, fun _ => GE174.out, fun _ => NB152_174.out, fun _ => NB174_152.out, fun _ => NB153_174.out, fun _ => NB174_153.out, fun _ => NB163_174.out, fun _ => NB174_163.out, fun _ => NB164_174.out, fun _ => NB174_164.out, fun _ h1_ => absurd ((up_self b 12).symm.trans h1_) (by decide), fun _ => GW175.out, fun _ => GE175.out, fun _ => NB152_175.out, fun _ => NB175_152.out, fun _ => NB153_175.out, fun _ => NB175_153.out, fun _ => NB163_175.out, fun _ => NB175_163.out, fun _ => NB164_175.out, fun _ => NB175_164.out, fun _ => (by (with_reducible repeat (first | refine blk_drewN ?_ _ | refine blk_drew ?_ | refine blk_alloc ?_ _)); refine blk_far ?_ NB174_175.out _; (with_reducible repeat (first | refine blk_drewN ?_ _ | refine blk_drew ?_ | refine blk_alloc ?_ _)); refine blk_far ?_ NB174_175.out _; (with_reducible repeat (first | refine blk_drewN ?_ _ | refine blk_drew ?_ | refine blk_alloc ?_ _)); exact BK174.out), fun _ => (by (with_reducible repeat (first | refine blk_drewN ?_ _ | refine blk_drew ?_ | refine blk_alloc ?_ _)); refine blk_put (cs := #[.int .i64 t171, .int .i64 0]) ?_ 1 _ rfl; (with_reducible repeat (first | refine blk_drewN ?_ _ | refine blk_drew ?_ | refine blk_alloc ?_ _)); refine blk_put (cs := #[.int .i64 0, .int .i64 0]) ?_ 0 _ rfl; (with_reducible repeat (first | refine blk_drewN ?_ _ | refine blk_drew ?_ | refine blk_alloc ?_ _)); exact BK175.out), Q_X9_, Q_X10_⟩
          refine steps_cons ?_ ?_
          · rintro b a w' ⟨gb174, gb175, m9_, m10_, ha, Q_BK152, Q_BK153, Q_BK163, Q_BK164, Q_HB, Q_NB175_174, Q_NB174_175, Q_BK174, Q_GW174, Q_GE174, Q_NB152_174, Q_NB174_152, Q_NB153_174, Q_NB174_153, Q_NB163_174, Q_NB174_163, Q_NB164_174, Q_NB174_164, Q_BK175, Q_GW175, Q_GE175, Q_NB152_175, Q_NB175_152, Q_NB153_175, Q_NB175_153, Q_NB163_175, Q_NB175_163, Q_NB164_175, Q_NB175_164, Q_BK174_e11, Q_BK175_e12, Q_X9_, Q_X10_⟩ hb_ hon hoff
            refine ⟨_, rfl, fun K hK => ?_⟩
            have e28 : a.tmps[28]? = some (.bool t173) := by rw [ha]; exact putSel_on (e := (8, 28, .bool t173)) 8 rfl rfl (hon 8 (by kernel_rfl)) rfl
            replace ha := Aside0.mk ha
            have BK152 := Aside0.mk Q_BK152
            have BK153 := Aside0.mk Q_BK153
            have BK163 := Aside0.mk Q_BK163
            have BK164 := Aside0.mk Q_BK164
            have HB := Aside0.mk Q_HB
            have NB175_174 := Aside0.mk (Q_NB175_174 (hon 9 (by kernel_rfl)) (hon 10 (by kernel_rfl)))
            have NB174_175 := Aside0.mk (Q_NB174_175 (hon 9 (by kernel_rfl)) (hon 10 (by kernel_rfl)))
            have GW174 := Aside0.mk (Q_GW174 (hon 9 (by kernel_rfl)))
            have GE174 := Aside0.mk (Q_GE174 (hon 9 (by kernel_rfl)))
            have NB152_174 := Aside0.mk (Q_NB152_174 (hon 9 (by kernel_rfl)))
            have NB174_152 := Aside0.mk (Q_NB174_152 (hon 9 (by kernel_rfl)))
            have NB153_174 := Aside0.mk (Q_NB153_174 (hon 9 (by kernel_rfl)))
            have NB174_153 := Aside0.mk (Q_NB174_153 (hon 9 (by kernel_rfl)))
            have NB163_174 := Aside0.mk (Q_NB163_174 (hon 9 (by kernel_rfl)))
            have NB174_163 := Aside0.mk (Q_NB174_163 (hon 9 (by kernel_rfl)))
            have NB164_174 := Aside0.mk (Q_NB164_174 (hon 9 (by kernel_rfl)))
            have NB174_164 := Aside0.mk (Q_NB174_164 (hon 9 (by kernel_rfl)))
            have GW175 := Aside0.mk (Q_GW175 (hon 10 (by kernel_rfl)))
            have GE175 := Aside0.mk (Q_GE175 (hon 10 (by kernel_rfl)))
            have NB152_175 := Aside0.mk (Q_NB152_175 (hon 10 (by kernel_rfl)))
            have NB175_152 := Aside0.mk (Q_NB175_152 (hon 10 (by kernel_rfl)))
            have NB153_175 := Aside0.mk (Q_NB153_175 (hon 10 (by kernel_rfl)))
            have NB175_153 := Aside0.mk (Q_NB175_153 (hon 10 (by kernel_rfl)))
            have NB163_175 := Aside0.mk (Q_NB163_175 (hon 10 (by kernel_rfl)))
            have NB175_163 := Aside0.mk (Q_NB175_163 (hon 10 (by kernel_rfl)))
            have NB164_175 := Aside0.mk (Q_NB164_175 (hon 10 (by kernel_rfl)))
            have NB175_164 := Aside0.mk (Q_NB175_164 (hon 10 (by kernel_rfl)))
            have BK174 := Aside0.mk (Q_BK174_e11 (hon 11 (by kernel_rfl)))
            have BK175 := Aside0.mk (Q_BK175_e12 (hon 12 (by kernel_rfl)))
            refine value_ (w1 := w') (v := .bool t173) (by rfl) rfl ?_ ?_
            · go_simp
              (try simp only [i64_w])
              try rfl
            refine hK.out _ _ ⟨gb174, gb175, m9_, m10_, (by rw [ha.out]; exact putSel_upk 11 hb_ rfl rfl rfl), Q_BK152, Q_BK153, Q_BK163, Q_BK164, Q_HB, Q_NB175_174, Q_NB174_175, fun _ h1_ => absurd ((hon 11 (by kernel_rfl)).symm.trans h1_) (by decide), Q_GW174, Q_GE174, Q_NB152_174, Q_NB174_152, Q_NB153_174, Q_NB174_153, Q_NB163_174, Q_NB174_163, Q_NB164_174, Q_NB174_164, fun _ h1_ => absurd ((hon 12 (by kernel_rfl)).symm.trans h1_) (by decide), Q_GW175, Q_GE175, Q_NB152_175, Q_NB175_152, Q_NB153_175, Q_NB175_153, Q_NB163_175, Q_NB175_163, Q_NB164_175, Q_NB175_164, Q_BK174_e11, Q_BK175_e12, Q_X9_, Q_X10_⟩
          exact steps_nil
        rintro b a w37 hall ⟨gb174, gb175, m9_, m10_, ha, Q_BK152, Q_BK153, Q_BK163, Q_BK164, Q_HB, Q_NB175_174, Q_NB174_175, Q_BK174, Q_GW174, Q_GE174, Q_NB152_174, Q_NB174_152, Q_NB153_174, Q_NB174_153, Q_NB163_174, Q_NB174_163, Q_NB164_174, Q_NB174_164, Q_BK175, Q_GW175, Q_GE175, Q_NB152_175, Q_NB175_152, Q_NB153_175, Q_NB175_153, Q_NB163_175, Q_NB175_163, Q_NB164_175, Q_NB175_164, Q_BK174_e11, Q_BK175_e12, Q_X9_, Q_X10_⟩
        clear BK152 BK153 BK163 BK164 HB
        have hb0_ := hall 0 (by kernel_rfl)
        have hb1_ := hall 1 (by kernel_rfl)
        have hb2_ := hall 2 (by kernel_rfl)
        have hb3_ := hall 3 (by kernel_rfl)
        have hb4_ := hall 4 (by kernel_rfl)
        have hb5_ := hall 5 (by kernel_rfl)
        have hb6_ := hall 6 (by kernel_rfl)
        have hb7_ := hall 7 (by kernel_rfl)
        have hb8_ := hall 8 (by kernel_rfl)
        have hb9_ := hall 9 (by kernel_rfl)
        have hb10_ := hall 10 (by kernel_rfl)
        have hb11_ := hall 11 (by kernel_rfl)
        have hb12_ := hall 12 (by kernel_rfl)
        have hb13_ := hall 13 (by kernel_rfl)
        subst ha
        obtain rfl := Q_X9_ hb9_
        obtain rfl := Q_X10_ hb10_
        simp only [putSel, hb0_, hb1_, hb2_, hb3_, hb4_, hb5_, hb6_, hb7_, hb8_, hb9_, hb10_, hb11_, hb12_, hb13_, if_true, Act.put, List.setIfInBounds_toArray, List.set_cons_zero, List.set_cons_succ]
        have BK152 := Aside0.mk Q_BK152
        clear Q_BK152
        have BK153 := Aside0.mk Q_BK153
        clear Q_BK153
        have BK163 := Aside0.mk Q_BK163
        clear Q_BK163
        have BK164 := Aside0.mk Q_BK164
        clear Q_BK164
        have HB := Aside0.mk Q_HB
        clear Q_HB
        have NB175_174 := Aside0.mk (Q_NB175_174 hb9_ hb10_)
        clear Q_NB175_174
        have NB174_175 := Aside0.mk (Q_NB174_175 hb9_ hb10_)
        clear Q_NB174_175
        clear Q_BK174
        have GW174 := Aside0.mk (Q_GW174 hb9_)
        clear Q_GW174
        have GE174 := Aside0.mk (Q_GE174 hb9_)
        clear Q_GE174
        have NB152_174 := Aside0.mk (Q_NB152_174 hb9_)
        clear Q_NB152_174
        have NB174_152 := Aside0.mk (Q_NB174_152 hb9_)
        clear Q_NB174_152
        have NB153_174 := Aside0.mk (Q_NB153_174 hb9_)
        clear Q_NB153_174
        have NB174_153 := Aside0.mk (Q_NB174_153 hb9_)
        clear Q_NB174_153
        have NB163_174 := Aside0.mk (Q_NB163_174 hb9_)
        clear Q_NB163_174
        have NB174_163 := Aside0.mk (Q_NB174_163 hb9_)
        clear Q_NB174_163
        have NB164_174 := Aside0.mk (Q_NB164_174 hb9_)
        clear Q_NB164_174
        have NB174_164 := Aside0.mk (Q_NB174_164 hb9_)
        clear Q_NB174_164
        clear Q_BK175
        have GW175 := Aside0.mk (Q_GW175 hb10_)
        clear Q_GW175
        have GE175 := Aside0.mk (Q_GE175 hb10_)
        clear Q_GE175
        have NB152_175 := Aside0.mk (Q_NB152_175 hb10_)
        clear Q_NB152_175
        have NB175_152 := Aside0.mk (Q_NB175_152 hb10_)
        clear Q_NB175_152
        have NB153_175 := Aside0.mk (Q_NB153_175 hb10_)
        clear Q_NB153_175
        have NB175_153 := Aside0.mk (Q_NB175_153 hb10_)
        clear Q_NB175_153
        have NB163_175 := Aside0.mk (Q_NB163_175 hb10_)
        clear Q_NB163_175
        have NB175_163 := Aside0.mk (Q_NB175_163 hb10_)
        clear Q_NB175_163
        have NB164_175 := Aside0.mk (Q_NB164_175 hb10_)
        clear Q_NB164_175
        have NB175_164 := Aside0.mk (Q_NB175_164 hb10_)
        clear Q_NB175_164
        have BK174 := Aside0.mk (Q_BK174_e11 hb11_)
        clear Q_BK174_e11
        have BK175 := Aside0.mk (Q_BK175_e12 hb12_)
        clear Q_BK175_e12
        clear hall hb0_ hb1_ hb2_ hb3_ hb4_ hb5_ hb6_ hb7_ hb8_ hb9_ hb10_ hb11_ hb12_ hb13_
        have hnb38 := NB174_152.out
        have hnc38 := NB152_174.out
        have hnb39 := NB174_153.out
        have hnc39 := NB153_174.out
        have hnb40 := NB174_163.out
        have hnc40 := NB163_174.out
        have hnb41 := NB174_164.out
        have hnc41 := NB164_174.out
        have hnb42 := NB174_175.out
        have hnc42 := NB175_174.out
        have hcz43_0 : w37.cell? ⟨gb174, 0, none⟩ = some (.int .i64 t169) := (blk_cell BK174.out 0).trans rfl
        have hcz43_1 : w37.cell? ⟨gb174, 1, none⟩ = some (.int .i64 t170) := (blk_cell BK174.out 1).trans rfl
        have hfz43_0 := blk_frozen BK174.out 0
        have hfz43_1 := blk_frozen BK174.out 1
        have hnb44 := NB163_152.out
        have hnc44 := NB152_163.out
        have hnb45 := NB163_153.out
        have hnc45 := NB153_163.out
        have hnb46 := NB163_164.out
        have hnc46 := NB164_163.out
        have hnb47 := NB163_175.out
        have hnc47 := NB175_163.out
        have hcz48_0 : w37.cell? ⟨gb163, 0, none⟩ = some (.int .i64 t158) := (blk_cell BK163.out 0).trans rfl
        have hcz48_1 : w37.cell? ⟨gb163, 1, none⟩ = some (.int .i64 t159) := (blk_cell BK163.out 1).trans rfl
        have hfz48_0 := blk_frozen BK163.out 0
        have hfz48_1 := blk_frozen BK163.out 1
        try go_wp2_with (first | ((with_reducible refine gate_callee (f := 36) rfl ?_); refine goesL_ (some 31) rfl rfl Try.func36 (by kernel_rfl) rfl #[.agg #[.int .i64 t169, .int .i64 t170], .agg #[.int .i64 t158, .int .i64 t159]] rfl (by (try simp only [List.map_toArray, List.map_cons, List.map_nil]); first | done | rfl | (simp only [List.length_drop, List.length_take]; rfl)) ?_; (with_reducible refine (laws_eqStretch.calls t169 t170 t158 t159 true _ A9.out).mono ?_); rintro e w49 ⟨rfl, hb⟩; refine ⟨_, rfl, ?_⟩; have n0_ := Aside0.mk (blk_below (g := gb152) (o := .cells #[.int .i64 a0_0, .int .i64 a0_1] 29 (0, 0)) (by (with_reducible repeat (first | refine blk_drewN ?_ _ | refine blk_drew ?_ | refine blk_alloc ?_ _)); exact BK152.out) hb); have n1_ := Aside0.mk (blk_below (g := gb153) (o := .cells #[.int .i64 a1_0, .int .i64 a1_1] 29 (0, 0)) (by (with_reducible repeat (first | refine blk_drewN ?_ _ | refine blk_drew ?_ | refine blk_alloc ?_ _)); exact BK153.out) hb); have n2_ := Aside0.mk (blk_below (g := gb163) (o := .cells #[.int .i64 t158, .int .i64 t159] 31 (0, 0)) (by (with_reducible repeat (first | refine blk_drewN ?_ _ | refine blk_drew ?_ | refine blk_alloc ?_ _)); exact BK163.out) hb); have n3_ := Aside0.mk (blk_below (g := gb164) (o := .cells #[.int .i64 t160, .int .i64 t161] 31 (0, 0)) (by (with_reducible repeat (first | refine blk_drewN ?_ _ | refine blk_drew ?_ | refine blk_alloc ?_ _)); exact BK164.out) hb); have n4_ := Aside0.mk (blk_below (g := gb174) (o := .cells #[.int .i64 t169, .int .i64 t170] 31 (0, 0)) (by (with_reducible repeat (first | refine blk_drewN ?_ _ | refine blk_drew ?_ | refine blk_alloc ?_ _)); exact BK174.out) hb); have n5_ := Aside0.mk (blk_below (g := gb175) (o := .cells #[.int .i64 t171, .int .i64 t172] 31 (0, 0)) (by (with_reducible repeat (first | refine blk_drewN ?_ _ | refine blk_drew ?_ | refine blk_alloc ?_ _)); exact BK175.out) hb); have n6_ := Aside0.mk (below_step (by repeat (first | (with_reducible first | exact HB.out | apply below_alloc | apply pw_below_drewN | apply below_drew1 | refine below_set ?_ GE152.out | refine below_set ?_ GE153.out | refine below_set ?_ GE163.out | refine below_set ?_ GE164.out | refine below_set ?_ GE174.out | refine below_set ?_ GE175.out) | exact HB.out)) hb); clear BK152; clear BK153; clear BK163; clear BK164; clear BK174; clear BK175; clear HB; have BK152 := n0_; have BK153 := n1_; have BK163 := n2_; have BK164 := n3_; have BK174 := n4_; have BK175 := n5_; have HB := n6_; clear n0_ n1_ n2_ n3_ n4_ n5_ n6_; (try clear hb); (try clear hb2); (try clear hk); (try clear hi); have hnb50 := NB175_152.out; have hnc50 := NB152_175.out; have hnb51 := NB175_153.out; have hnc51 := NB153_175.out; have hnb52 := NB175_164.out; have hnc52 := NB164_175.out; have hcz53_0 : w49.cell? ⟨gb175, 0, none⟩ = some (.int .i64 t171) := (blk_cell BK175.out 0).trans rfl; have hcz53_1 : w49.cell? ⟨gb175, 1, none⟩ = some (.int .i64 t172) := (blk_cell BK175.out 1).trans rfl; have hfz53_0 := blk_frozen BK175.out 0; have hfz53_1 := blk_frozen BK175.out 1; have hnb54 := NB164_152.out; have hnc54 := NB152_164.out; have hnb55 := NB164_153.out; have hnc55 := NB153_164.out; have hcz56_0 : w49.cell? ⟨gb164, 0, none⟩ = some (.int .i64 t160) := (blk_cell BK164.out 0).trans rfl; have hcz56_1 : w49.cell? ⟨gb164, 1, none⟩ = some (.int .i64 t161) := (blk_cell BK164.out 1).trans rfl; have hfz56_0 := blk_frozen BK164.out 0; have hfz56_1 := blk_frozen BK164.out 1) | (go_at_call 36; (with_reducible refine (laws_eqStretch.calls t171 t172 t160 t161 true _ A11.out).mono ?_); rintro e w57 ⟨rfl, hb⟩; have n0_ := Aside0.mk (blk_below (g := gb152) (o := .cells #[.int .i64 a0_0, .int .i64 a0_1] 29 (0, 0)) (by (with_reducible repeat (first | refine blk_drewN ?_ _ | refine blk_drew ?_ | refine blk_alloc ?_ _)); exact BK152.out) hb); have n1_ := Aside0.mk (blk_below (g := gb153) (o := .cells #[.int .i64 a1_0, .int .i64 a1_1] 29 (0, 0)) (by (with_reducible repeat (first | refine blk_drewN ?_ _ | refine blk_drew ?_ | refine blk_alloc ?_ _)); exact BK153.out) hb); have n2_ := Aside0.mk (blk_below (g := gb163) (o := .cells #[.int .i64 t158, .int .i64 t159] 31 (0, 0)) (by (with_reducible repeat (first | refine blk_drewN ?_ _ | refine blk_drew ?_ | refine blk_alloc ?_ _)); exact BK163.out) hb); have n3_ := Aside0.mk (blk_below (g := gb164) (o := .cells #[.int .i64 t160, .int .i64 t161] 31 (0, 0)) (by (with_reducible repeat (first | refine blk_drewN ?_ _ | refine blk_drew ?_ | refine blk_alloc ?_ _)); exact BK164.out) hb); have n4_ := Aside0.mk (blk_below (g := gb174) (o := .cells #[.int .i64 t169, .int .i64 t170] 31 (0, 0)) (by (with_reducible repeat (first | refine blk_drewN ?_ _ | refine blk_drew ?_ | refine blk_alloc ?_ _)); exact BK174.out) hb); have n5_ := Aside0.mk (blk_below (g := gb175) (o := .cells #[.int .i64 t171, .int .i64 t172] 31 (0, 0)) (by (with_reducible repeat (first | refine blk_drewN ?_ _ | refine blk_drew ?_ | refine blk_alloc ?_ _)); exact BK175.out) hb); have n6_ := Aside0.mk (below_step (by repeat (first | (with_reducible first | exact HB.out | apply below_alloc | apply pw_below_drewN | apply below_drew1 | refine below_set ?_ GE152.out | refine below_set ?_ GE153.out | refine below_set ?_ GE163.out | refine below_set ?_ GE164.out | refine below_set ?_ GE174.out | refine below_set ?_ GE175.out) | exact HB.out)) hb); clear BK152; clear BK153; clear BK163; clear BK164; clear BK174; clear BK175; clear HB; have BK152 := n0_; have BK153 := n1_; have BK163 := n2_; have BK164 := n3_; have BK174 := n4_; have BK175 := n5_; have HB := n6_; clear n0_ n1_ n2_ n3_ n4_ n5_ n6_; (try clear hb); (try clear hb2); (try clear hk); (try clear hi)))
        go_ret
        exact ⟨by first | rfl | (simp [errW_none, errW_some] <;> rfl) | (simp [*, errW_none, errW_some] <;> rfl), by repeat (first | (with_reducible first | exact HB.out | apply below_alloc | apply pw_below_drewN | apply below_drew1 | refine below_set ?_ GE152.out | refine below_set ?_ GE153.out | refine below_set ?_ GE163.out | refine below_set ?_ GE164.out | refine below_set ?_ GE174.out | refine below_set ?_ GE175.out) | exact HB.out)⟩
    · replace c12 := Bool.eq_false_iff.mpr c12
      subst c12
      have H1 : (some false) = some r := by rw [if_neg (show ¬ (false = true) by decide)] at H; exact H
      clear H
      have H := H1
      clear H1
      exact absurd (Option.some.inj H).symm (by rw [hr_.out]; simp)
  · replace c10 := Bool.eq_false_iff.mpr c10
    subst c10
    have H1 : (some false) = some r := by rw [if_neg (show ¬ (false = true) by decide)] at H; exact H
    clear H
    have H := H1
    clear H1
    exact absurd (Option.some.inj H).symm (by rw [hr_.out]; simp)

/-- The one pure statement of laws_FnExactSplitLess. -/
def laws_FnExactSplitLess.Pure : Prop := ∀ (a0_0 : Int) (a0_1 : Int) (a1_0 : Int) (a1_1 : Int), ((Lit.int .i64 a0_0).wf = true) → ((Lit.int .i64 a0_1).wf = true) → ((Lit.int .i64 a1_0).wf = true) → ((Lit.int .i64 a1_1).wf = true) → laws_FnExactSplitLess.f a0_0 a0_1 a1_0 a1_1 = some true
theorem laws_FnExactSplitLess.walk (P : laws_FnExactSplitLess.Pure) (w : World) (a0_0 : Int) (hg0_0 : (Lit.int .i64 a0_0).wf = true) (a0_1 : Int) (hg0_1 : (Lit.int .i64 a0_1).wf = true) (a1_0 : Int) (hg1_0 : (Lit.int .i64 a1_0).wf = true) (a1_1 : Int) (hg1_1 : (Lit.int .i64 a1_1).wf = true) :
    Calls Try.prog 12 #[.agg #[.int .i64 a0_0, .int .i64 a0_1], .agg #[.int .i64 a1_0, .int .i64 a1_1]] w fun e w' => e = .returned (.bool true) ∧ Below w.heap.size w w' := by
  have h := P a0_0 a0_1 a1_0 a1_1 hg0_0 hg0_1 hg1_0 hg1_1
  refine (laws_FnExactSplitLess.calls a0_0 a0_1 a1_0 a1_1 true w  ⟨rfl⟩ h).mono ?_
  rintro e w' ⟨rfl, hd⟩
  exact ⟨rfl, hd⟩

end Go.Proofs.Ytpjbemdbbjjblaa.PGS
