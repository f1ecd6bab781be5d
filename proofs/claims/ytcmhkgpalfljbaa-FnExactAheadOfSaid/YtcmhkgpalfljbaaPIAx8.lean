-- Made by myprint.py (this session's program, over the kit's print) for this claim. Lean checks it.
import Derived.Test.YtcmhkgpalfljbaaPIAx0
import Derived.Test.YtcmhkgpalfljbaaPIAx6
import Derived.Test.YtcmhkgpalfljbaaPIAx7
namespace Go.Proofs.Ytcmhkgpalfljbaa.PIA
open Go.RowKit Go.Proofs.YtcmhkgpalfljbaaW.PrintWords Go.Proofs.YtcmhkgpalfljbaaW.PrintLast Go.Proofs.YtcmhkgpalfljbaaW.PrintMore
attribute [local go_sem] max2_int min2_int max_two min_two max_three min_three max_four min_four   -- for this text's walks alone
set_option linter.unusedVariables false
set_option linter.unusedSimpArgs false

/-! ### impl_AheadOf: function 28 -/
/-- The closure's reading: whether a step is there and leads on to another one. -/
def impl_AheadOf.pr (k : Nat) (l : List Bool) (q : List S51) (at_ i : Int) : Option Bool := if 0 ≤ i then (if i < (l.length : Int) then (if rdOf false l i = true then ((impl_nexts.f q i).bind fun t => slices_Contains_int_int.f k t at_) else some false) else none) else none
theorem impl_AheadOf.pr_mono (k : Nat) (l : List Bool) (q : List S51) (at_ i : Int) : LeO (impl_AheadOf.pr k l q at_ i) (impl_AheadOf.pr (k + 1) l q at_ i) := by
  unfold impl_AheadOf.pr
  exact LeO.ite (LeO.ite (LeO.ite (LeO.bind (LeO.refl _) (fun _ => slices_Contains_int_int.mono _ _ _)) (LeO.refl _)) (LeO.none _)) (LeO.none _)
set_option maxHeartbeats 4000000 in
set_option maxRecDepth 100000 in
theorem impl_AheadOf.pr_calls (k B0 B1 B2 : Nat) (A : Option Addr) (c : Nat) (l : List Bool) (A2 : Option Addr) (c2 : Nat) (q : List S51) (at_ x : Int) (v : Bool) (w : World) (hB0 : w.heap[B0]? = some (.cells #[.slice A l.length c] 57 (0, 0))) (hB1 : w.heap[B1]? = some (.cells #[.slice A2 q.length c2] 26 (0, 0))) (hB2 : w.heap[B2]? = some (.cells #[.int .i64 at_] 3 (0, 0))) (hr : Kd.C Kd.bool w A l.length l) (hr2 : Kd.C k51 w A2 q.length q) (hl2 : q.length ≤ c2) (h : impl_AheadOf.pr k l q at_ x = some v) :
    Calls Try.prog 59 #[.int .i64 x, .pointer (some ⟨B0, 0, none⟩), .pointer (some ⟨B1, 0, none⟩), .pointer (some ⟨B2, 0, none⟩)] w fun e w' => e = .returned (.bool v) ∧ Below w.heap.size w w' := by
  have HR := Aside0.mk hr
  have HR2 := Aside0.mk hr2
  have HC2 := Aside0.mk hl2
  clear hr hr2 hl2
  unfold impl_AheadOf.pr at h
  have hc0 : w.cell? ⟨B0, 0, none⟩ = some (.slice A l.length c) := (blk_cell hB0 0).trans rfl
  have hc1 : w.cell? ⟨B1, 0, none⟩ = some (.slice A2 q.length c2) := (blk_cell hB1 0).trans rfl
  have hc2 : w.cell? ⟨B2, 0, none⟩ = some (.int .i64 at_) := (blk_cell hB2 0).trans rfl
  clear hB0 hB1 hB2
  by_cases c5 : 0 ≤ x
  · rw [if_pos c5] at h
    by_cases c6 : x < (l.length : Int)
    · rw [if_pos c6] at h
      obtain ⟨ad, e101, hx⟩ := Kd.at_bool HR.out x c5 c6
      cases e101
      have p101 := eq_true c5
      have q101 := eq_true c6
      clear c5 c6
      by_cases c7 : rdOf false l x = true
      · rw [if_pos c7] at h
        rw [c7] at hx
        obtain ⟨t, A70, h⟩ := Option.bind_eq_some_iff.mp h
        have A7 := Aside0.mk A70
        have A8 := Aside0.mk h
        clear A70 h c7
        go_enter Try.func59, Try.ntmps59
        go_wp2
        refine start_ (n := 12) (S := fun w' => w'.cell? ⟨B0, 0, none⟩ = some (.slice (some ad) l.length c) ∧ w'.cell? ⟨B1, 0, none⟩ = some (.slice A2 q.length c2) ∧ w'.cell? ⟨B2, 0, none⟩ = some (.int .i64 at_) ∧ w'.cell? (ad.add x.toNat) = some (.bool true)) (ds := [9]) #[false, false, false, false, false, false, false, false, false, false, false, false] (by kernel_rfl) rfl rfl ⟨hc0, hc1, hc2, hx⟩ (fun hHeld => ?_)
        have HBD := Aside0.mk (show Below w.heap.size w w.drew from below_drew (Below.refl _ _))
        clear hc0 hc1 hc2 hx
        generalize w.drew = w9 at HBD hHeld ⊢
        refine take_ (i := 0) (N := some 6) (v := ?_) (a' := ?_) #[true, false, false, false, false, false, false, false, false, false, false, false] rfl rfl (by kernel_rfl) (fun _ _ _ h => h) (Or.inl ⟨by rfl, ?_⟩) hHeld ?_ ?_
        rotate_left
        · rintro w' ⟨s0, s1, s2, s3⟩
          go_simp
          with_reducible rfl
        rotate_left
        · simp only [Act.put, List.setIfInBounds_toArray, List.set_cons_zero, List.set_cons_succ, i64_w, i32_w]
          rfl
        refine pure_ (i := 1) (N := some 7) (v := ?_) (a' := ?_) #[true, true, false, false, false, false, false, false, false, false, false, false] rfl rfl (by kernel_rfl) (fun _ _ _ h => h) (Or.inl ⟨by rfl, ?_⟩) ?_ ?_
        rotate_left
        · intro w'
          go_simp
          with_reducible rfl
        rotate_left
        · simp only [Act.put, List.setIfInBounds_toArray, List.set_cons_zero, List.set_cons_succ, i64_w, i32_w]
          rfl
        refine pure_ (i := 2) (N := some 8) (v := ?_) (a' := ?_) #[true, true, true, false, false, false, false, false, false, false, false, false] rfl rfl (by kernel_rfl) (fun _ _ _ h => h) (Or.inl ⟨by rfl, ?_⟩) ?_ ?_
        rotate_left
        · intro w'
          go_simp
          with_reducible rfl
        rotate_left
        · simp only [Act.put, List.setIfInBounds_toArray, List.set_cons_zero, List.set_cons_succ, i64_w, i32_w]
          rfl
        refine take_ (i := 3) (N := some 9) (v := ?_) (a' := ?_) #[true, true, true, true, false, false, false, false, false, false, false, false] rfl rfl (by kernel_rfl) (fun _ _ _ h => h) (Or.inl ⟨by rfl, ?_⟩) hHeld ?_ ?_
        rotate_left
        · rintro w' ⟨s0, s1, s2, s3⟩
          go_simp
          with_reducible rfl
        rotate_left
        · simp only [Act.put, List.setIfInBounds_toArray, List.set_cons_zero, List.set_cons_succ, i64_w, i32_w]
          rfl
        refine pure_ (i := 4) (N := some 10) (v := ?_) (a' := ?_) #[true, true, true, true, true, false, false, false, false, false, false, false] rfl rfl (by kernel_rfl) (fun _ _ _ h => h) (Or.inl ⟨by rfl, ?_⟩) ?_ ?_
        rotate_left
        · intro w'
          go_simp
          with_reducible rfl
        rotate_left
        · simp only [Act.put, List.setIfInBounds_toArray, List.set_cons_zero, List.set_cons_succ, i64_w, i32_w]
          rfl
        refine take_ (i := 5) (N := some 11) (v := ?_) (a' := ?_) #[true, true, true, true, true, true, false, false, false, false, false, false] rfl rfl (by kernel_rfl) (fun _ _ _ h => h) (Or.inl ⟨by rfl, ?_⟩) hHeld ?_ ?_
        rotate_left
        · rintro w' ⟨s0, s1, s2, s3⟩
          go_simp
          with_reducible rfl
        rotate_left
        · simp only [Act.put, List.setIfInBounds_toArray, List.set_cons_zero, List.set_cons_succ, i64_w, i32_w]
          rfl
        refine pure_ (i := 6) (N := some 12) (v := ?_) (a' := ?_) #[true, true, true, true, true, true, true, false, false, false, false, false] rfl rfl (by kernel_rfl) (fun _ _ _ h => h) (Or.inl ⟨by rfl, ?_⟩) ?_ ?_
        rotate_left
        · intro w'
          go_simp
          with_reducible rfl
        rotate_left
        · simp only [Act.put, List.setIfInBounds_toArray, List.set_cons_zero, List.set_cons_succ, i64_w, i32_w]
          rfl
        refine take_ (i := 8) (N := some 14) (v := ?_) (a' := ?_) #[true, true, true, true, true, true, true, false, true, false, false, false] rfl rfl (by kernel_rfl) (fun _ _ _ h => h) (Or.inl ⟨by rfl, ?_⟩) hHeld ?_ ?_
        rotate_left
        · rintro w' ⟨s0, s1, s2, s3⟩
          go_simp
          with_reducible rfl
        rotate_left
        · simp only [Act.put, List.setIfInBounds_toArray, List.set_cons_zero, List.set_cons_succ, i64_w, i32_w]
          rfl
        refine one_ (i := 7) (N := some 13) #[true, true, true, true, true, true, true, true, true, false, false, false] rfl rfl (by kernel_rfl) (by decide) (fun K hK => ?_)
        refine goes_ Try.func61 (by kernel_rfl) rfl #[.slice A2 q.length c2, .int .i64 x] (by rfl) rfl rfl (by (try simp only [List.map_toArray, List.map_cons, List.map_nil]); first | done | rfl) ?_
        refine (impl_nexts.calls _ _ q x t _ (Kd.C_below HR2.out HBD.out) HC2.out A7.out).mono ?_
        rintro e w10 ⟨v1, rfl, ho, hb⟩
        refine ⟨_, rfl, ?_⟩
        obtain ⟨Ao, co, eo⟩ := Kd.R_slice ho
        subst eo
        have HO := Aside0.mk ho
        have HBD2 := Aside0.mk (below_step HBD.out hb)
        refine hK.out _ _ ⟨pw_cell_below hb hHeld.1, pw_cell_below hb hHeld.2.1, pw_cell_below hb hHeld.2.2.1, pw_cell_below hb hHeld.2.2.2⟩ (fun hHeld2 => ?_)
        clear hK K hHeld hb ho
        refine norm_ (a' := ?_) ?_ ?_
        rotate_left
        · show Act.put _ (some 13) _ = _
          simp only [Act.put, List.setIfInBounds_toArray, List.set_cons_zero, List.set_cons_succ, i64_w, i32_w]
          rfl
        refine last_ (i := 9) (N := some 15) #[true, true, true, true, true, true, true, true, true, true, false, false] rfl rfl (by kernel_rfl) (by decide) (fun K hK => ?_)
        refine goes_ Try.func60 (by kernel_rfl) rfl #[.slice Ao t.length co, .int .i64 at_] (by rfl) rfl rfl (by (try simp only [List.map_toArray, List.map_cons, List.map_nil]); first | done | rfl) ?_
        refine (slices_Contains_int_int.calls k _ _ t at_ v _ (Kd.R_reads' HO.out).2.2 (Kd.R_reads' HO.out).2.1 A8.out).mono ?_
        rintro e w11 ⟨rfl, ⟨nd, rfl⟩⟩
        refine ⟨_, rfl, ?_⟩
        refine hK.out _ _ ?_
        clear hK K
        refine norm_ (a' := ?_) ?_ ?_
        rotate_left
        · show Act.put _ (some 15) _ = _
          simp only [Act.put, List.setIfInBounds_toArray, List.set_cons_zero, List.set_cons_succ, i64_w, i32_w]
          rfl
        refine pure_ (i := 10) (N := some 16) (v := ?_) (a' := ?_) #[true, true, true, true, true, true, true, true, true, true, true, false] rfl rfl (by kernel_rfl) (fun _ _ _ h => h) (Or.inl ⟨by rfl, ?_⟩) ?_ ?_
        rotate_left
        · intro w'
          go_simp
          with_reducible rfl
        rotate_left
        · simp only [Act.put, List.setIfInBounds_toArray, List.set_cons_zero, List.set_cons_succ, i64_w, i32_w]
          rfl
        refine pure_ (i := 11) (N := some 5) (v := ?_) (a' := ?_) #[true, true, true, true, true, true, true, true, true, true, true, true] rfl rfl (by kernel_rfl) (fun _ _ _ h => h) (Or.inl ⟨by rfl, ?_⟩) ?_ ?_
        rotate_left
        · intro w'
          go_simp
          with_reducible rfl
        rotate_left
        · simp only [Act.put, List.setIfInBounds_toArray, List.set_cons_zero, List.set_cons_succ, i64_w, i32_w]
          rfl
        refine done_ (by kernel_rfl) ?_
        go_wp2
        go_ret
        exact ⟨by first | rfl | (simp; done) | (simp [*]; done), pw_below_drewN HBD2.out _⟩
      · rw [if_neg c7] at h
        rw [Bool.eq_false_iff.mpr c7] at hx
        obtain rfl := Option.some.inj h
        clear h c7
        go_enter Try.func59, Try.ntmps59
        go_wp2
        refine start_ (n := 12) (S := fun w' => w'.cell? ⟨B0, 0, none⟩ = some (.slice (some ad) l.length c) ∧ w'.cell? ⟨B1, 0, none⟩ = some (.slice A2 q.length c2) ∧ w'.cell? ⟨B2, 0, none⟩ = some (.int .i64 at_) ∧ w'.cell? (ad.add x.toNat) = some (.bool false)) (ds := [9]) #[false, false, false, false, false, false, false, false, false, false, false, false] (by kernel_rfl) rfl rfl ⟨hc0, hc1, hc2, hx⟩ (fun hHeld => ?_)
        have HBD := Aside0.mk (show Below w.heap.size w w.drew from below_drew (Below.refl _ _))
        clear hc0 hc1 hc2 hx
        generalize w.drew = w9 at HBD hHeld ⊢
        refine take_ (i := 0) (N := some 6) (v := ?_) (a' := ?_) #[true, false, false, false, false, false, false, false, false, false, false, false] rfl rfl (by kernel_rfl) (fun _ _ _ h => h) (Or.inl ⟨by rfl, ?_⟩) hHeld ?_ ?_
        rotate_left
        · rintro w' ⟨s0, s1, s2, s3⟩
          go_simp
          with_reducible rfl
        rotate_left
        · simp only [Act.put, List.setIfInBounds_toArray, List.set_cons_zero, List.set_cons_succ, i64_w, i32_w]
          rfl
        refine pure_ (i := 1) (N := some 7) (v := ?_) (a' := ?_) #[true, true, false, false, false, false, false, false, false, false, false, false] rfl rfl (by kernel_rfl) (fun _ _ _ h => h) (Or.inl ⟨by rfl, ?_⟩) ?_ ?_
        rotate_left
        · intro w'
          go_simp
          with_reducible rfl
        rotate_left
        · simp only [Act.put, List.setIfInBounds_toArray, List.set_cons_zero, List.set_cons_succ, i64_w, i32_w]
          rfl
        refine pure_ (i := 2) (N := some 8) (v := ?_) (a' := ?_) #[true, true, true, false, false, false, false, false, false, false, false, false] rfl rfl (by kernel_rfl) (fun _ _ _ h => h) (Or.inl ⟨by rfl, ?_⟩) ?_ ?_
        rotate_left
        · intro w'
          go_simp
          with_reducible rfl
        rotate_left
        · simp only [Act.put, List.setIfInBounds_toArray, List.set_cons_zero, List.set_cons_succ, i64_w, i32_w]
          rfl
        refine take_ (i := 3) (N := some 9) (v := ?_) (a' := ?_) #[true, true, true, true, false, false, false, false, false, false, false, false] rfl rfl (by kernel_rfl) (fun _ _ _ h => h) (Or.inl ⟨by rfl, ?_⟩) hHeld ?_ ?_
        rotate_left
        · rintro w' ⟨s0, s1, s2, s3⟩
          go_simp
          with_reducible rfl
        rotate_left
        · simp only [Act.put, List.setIfInBounds_toArray, List.set_cons_zero, List.set_cons_succ, i64_w, i32_w]
          rfl
        refine pure_ (i := 4) (N := some 10) (v := ?_) (a' := ?_) #[true, true, true, true, true, false, false, false, false, false, false, false] rfl rfl (by kernel_rfl) (fun _ _ _ h => h) (Or.inl ⟨by rfl, ?_⟩) ?_ ?_
        rotate_left
        · intro w'
          go_simp
          with_reducible rfl
        rotate_left
        · simp only [Act.put, List.setIfInBounds_toArray, List.set_cons_zero, List.set_cons_succ, i64_w, i32_w]
          rfl
        refine pure_ (i := 5) (N := some 11) (v := undef) (a' := ?_) #[true, true, true, true, true, true, false, false, false, false, false, false] rfl rfl (by kernel_rfl) (fun _ _ _ h => h) (Or.inr ⟨by rfl, rfl⟩) ?_ ?_
        rotate_left
        · simp only [Act.put, List.setIfInBounds_toArray, List.set_cons_zero, List.set_cons_succ, i64_w, i32_w]
          rfl
        refine pure_ (i := 6) (N := some 12) (v := undef) (a' := ?_) #[true, true, true, true, true, true, true, false, false, false, false, false] rfl rfl (by kernel_rfl) (fun _ _ _ h => h) (Or.inr ⟨by rfl, rfl⟩) ?_ ?_
        rotate_left
        · simp only [Act.put, List.setIfInBounds_toArray, List.set_cons_zero, List.set_cons_succ, i64_w, i32_w]
          rfl
        refine pure_ (i := 7) (N := some 13) (v := undef) (a' := ?_) #[true, true, true, true, true, true, true, true, false, false, false, false] rfl rfl (by kernel_rfl) (fun _ _ _ h => h) (Or.inr ⟨by rfl, rfl⟩) ?_ ?_
        rotate_left
        · simp only [Act.put, List.setIfInBounds_toArray, List.set_cons_zero, List.set_cons_succ, i64_w, i32_w]
          rfl
        refine pure_ (i := 8) (N := some 14) (v := undef) (a' := ?_) #[true, true, true, true, true, true, true, true, true, false, false, false] rfl rfl (by kernel_rfl) (fun _ _ _ h => h) (Or.inr ⟨by rfl, rfl⟩) ?_ ?_
        rotate_left
        · simp only [Act.put, List.setIfInBounds_toArray, List.set_cons_zero, List.set_cons_succ, i64_w, i32_w]
          rfl
        refine pure_ (i := 9) (N := some 15) (v := undef) (a' := ?_) #[true, true, true, true, true, true, true, true, true, true, false, false] rfl rfl (by kernel_rfl) (fun _ _ _ h => h) (Or.inr ⟨by rfl, rfl⟩) ?_ ?_
        rotate_left
        · simp only [Act.put, List.setIfInBounds_toArray, List.set_cons_zero, List.set_cons_succ, i64_w, i32_w]
          rfl
        refine pure_ (i := 10) (N := some 16) (v := ?_) (a' := ?_) #[true, true, true, true, true, true, true, true, true, true, true, false] rfl rfl (by kernel_rfl) (fun _ _ _ h => h) (Or.inl ⟨by rfl, ?_⟩) ?_ ?_
        rotate_left
        · intro w'
          go_simp
          with_reducible rfl
        rotate_left
        · simp only [Act.put, List.setIfInBounds_toArray, List.set_cons_zero, List.set_cons_succ, i64_w, i32_w]
          rfl
        refine pure_ (i := 11) (N := some 5) (v := ?_) (a' := ?_) #[true, true, true, true, true, true, true, true, true, true, true, true] rfl rfl (by kernel_rfl) (fun _ _ _ h => h) (Or.inl ⟨by rfl, ?_⟩) ?_ ?_
        rotate_left
        · intro w'
          go_simp
          with_reducible rfl
        rotate_left
        · simp only [Act.put, List.setIfInBounds_toArray, List.set_cons_zero, List.set_cons_succ, i64_w, i32_w]
          rfl
        refine done_ (by kernel_rfl) ?_
        go_wp2
        go_ret
        exact ⟨by first | rfl | (simp; done) | (simp [*]; done), HBD.out⟩
    · rw [if_neg c6] at h; cases h
  · rw [if_neg c5] at h; cases h
def impl_AheadOf.lst : Nat → (Int → Option Bool) → Int → List Int → Int → Option (List Int)
  | 0, _, _, _, _ => none
  | k + 1, p, many, out, i => if i < many then ((p i).bind fun t => (if t = true then (if out.length < 17592186044416 then impl_AheadOf.lst k p many (out ++ [i]) (wrap64 (i + 1)) else none) else impl_AheadOf.lst k p many out (wrap64 (i + 1)))) else some out
theorem impl_AheadOf.lst_mono : ∀ k p p' m o i, (∀ i, LeO (p i) (p' i)) → LeO (impl_AheadOf.lst k p m o i) (impl_AheadOf.lst (k + 1) p' m o i)
  | 0 => fun _ _ _ _ _ _ r h => by simp [impl_AheadOf.lst] at h
  | k + 1 => by
    have ih0 := impl_AheadOf.lst_mono k
    intro p p' m o i hp
    unfold impl_AheadOf.lst
    exact LeO.ite (LeO.bind (hp _) (fun _ => LeO.ite (LeO.ite (ih0 _ _ _ _ _ hp) (LeO.none _)) (ih0 _ _ _ _ _ hp))) (LeO.refl _)
set_option maxHeartbeats 8000000 in
set_option maxRecDepth 100000 in
theorem impl_AheadOf.lst_calls (k : Nat) (B0 B1 B2 : Nat) (p : Int → Option Bool) (many : Int) (r : List Int) (w : World)
    (hp : ∀ (W : World) (x : Int) (v : Bool), Below w.heap.size w W → p x = some v → Calls Try.prog 59 #[.int .i64 x, .pointer (some ⟨B0, 0, none⟩), .pointer (some ⟨B1, 0, none⟩), .pointer (some ⟨B2, 0, none⟩)] W fun e w' => e = .returned (.bool v) ∧ Below W.heap.size W w')
    (h : impl_AheadOf.lst k p many [] 0 = some r) :
    Calls Try.prog 51 #[.int .i64 many, .func (.func 59) #[] #[.pointer (some ⟨B0, 0, none⟩), .pointer (some ⟨B1, 0, none⟩), .pointer (some ⟨B2, 0, none⟩)]] w fun e w' => ∃ v0_ : Value, e = .returned v0_ ∧ Kd.R (Kd.int .i64) 3 w' w.heap.size (fun _ => True) v0_ r ∧ Below w.heap.size w w' := by
  have H' := Aside0.mk h
  clear h
  have HB := Aside0.mk (Below.refl w.heap.size w)
  have HP := Aside0.mk hp
  clear hp
  have eg := fun args w => enters_ (P := Try.prog) Try.func59 (by kernel_rfl) rfl args w
  go_enter Try.func51, Try.ntmps51
  go_wp2
  go_loopg [5, 8] k (fun kq v5 v8 w' => ∃ (o : List Int) (x : Int), v8 = .int .i64 x ∧ Aside0 (impl_AheadOf.lst kq p many o x = some r) ∧ Aside0 (kq ≤ k) ∧ Aside0 (Kd.R (Kd.int .i64) 3 w' w.heap.size (fun _ => True) v5 o) ∧ Aside0 (Below w.heap.size w w'))
  case atStart => exact ⟨[], (0), (by first | rfl | (simp; done) | (simp [*]; done)), H', ⟨Nat.le_refl _⟩, ⟨Kd.R_nil _ _ _ _ _⟩, ⟨bq_⟩⟩
  case round =>
    clear H' HB
    obtain ⟨o, x, rfl, HA, HK1, HO, HB⟩ := hrel
    cases gk with
    | zero => exact absurd HA.out (by simp [impl_AheadOf.lst])
    | succ k1 =>
      have H := HA.out
      clear HA
      simp only [impl_AheadOf.lst] at H
      by_cases c4 : x < many
      · rw [if_pos c4] at H
        have c4b0 : decide (x < many) = true := decide_eq_true c4
        clear c4
        obtain ⟨t, A70, H⟩ := Option.bind_eq_some_iff.mp H
        have A7 := Aside0.mk A70
        clear A70
        by_cases c8 : t = true
        · subst c8
          rw [if_pos rfl] at H
          by_cases c12 : o.length < 17592186044416
          · rw [if_pos c12] at H
            have LMc12 := Aside0.mk c12
            clear c12
            have H' := Aside0.mk H
            clear H
            go_wp2_with (first | (go_at_call 59; refine (HP.out _ x true (bq_) A7.out).mono ?_; rintro e w6 ⟨rfl, hb⟩; have n0_ := Aside0.mk (below_step (bq_) hb); have n1_ := Aside0.mk (Kd.R_below (rq_ HO.out) hb); clear HB HO; have HB := n0_; have HO := n1_; clear n0_ n1_ hb) | ((with_reducible refine gate_builtin (b := .append) (xs := #[.tmp 14, .tmp 16]) rfl ?_); at_builtin; refine Kd.R_append (Kd.int .i64) (w0 := w) w.heap.size rfl (.tmp 14) (.tmp 16) 30 3 (.int .i64 0) 8 rfl Try.underlying30 info3 rfl (by decide) (by omega) u5 o x [.int .i64 x] (fun _ => True) (fun _ => False) rfl rfl ?aP (fun _ hk => hk.elim) ?aF ?aO ?aB ?aS ?aL ?_; (case aP => exact rfl); (case aB => exact (bq_)); (case aF => exact (fun _ _ => trivial)); (case aO => exact (rq_ HO.out)); (case aS => exact (below_size (bq_))); (case aL => have := LMc12.out; omega); intro v121 w13 ho hb hg hat; have n0_ := Aside0.mk hb; have n1_ := Aside0.mk ho; clear HB HO; have HB := n0_; have HO := n1_; clear n0_ n1_ ho hb hg hat))
            go_roundg k1
            case measure => have := HK1.out; omega
            case rel => exact ⟨_, (wrap64 (x + 1)), (by first | rfl | (simp; done) | (simp [*]; done)), H', ⟨by have := HK1.out; omega⟩, ⟨rq_ HO.out⟩, ⟨bq_⟩⟩
          · rw [if_neg c12] at H
            exact absurd H (by simp)
        · replace c8 := Bool.eq_false_iff.mpr c8
          subst c8
          rw [if_neg (by simp)] at H
          have H' := Aside0.mk H
          clear H
          go_wp2_with (go_at_call 59; refine (HP.out _ x false (bq_) A7.out).mono ?_; rintro e w6 ⟨rfl, hb⟩; have n0_ := Aside0.mk (below_step (bq_) hb); have n1_ := Aside0.mk (Kd.R_below (rq_ HO.out) hb); clear HB HO; have HB := n0_; have HO := n1_; clear n0_ n1_ hb)
          go_roundg k1
          case measure => have := HK1.out; omega
          case rel => exact ⟨_, (wrap64 (x + 1)), (by first | rfl | (simp; done) | (simp [*]; done)), H', ⟨by have := HK1.out; omega⟩, ⟨rq_ HO.out⟩, ⟨bq_⟩⟩
      · rw [if_neg c4] at H
        have c4b0 : decide (x < many) = false := decide_eq_false c4
        clear c4
        obtain rfl := Option.some.inj H
        clear H
        go_wp2
        go_ret
        exact ⟨_, by first | rfl | (simp; done) | (simp [*]; done), rq_ HO.out, bq_⟩
def impl_AheadOf.f (k : Nat) (l0 : List (S51)) (a1 : Int) : Option (List Int × Bool) := (impl_isStep.f k l0 a1).bind fun t => if t = true then ((impl_reachable.f k l0 0).bind fun y => (impl_AheadOf.lst k (impl_AheadOf.pr k y l0 a1) (l0.length : Int) [] 0).bind fun o => some (o, true)) else some (([] : List Int), false)
theorem impl_AheadOf.mono : ∀ a0 a1 k, LeO (impl_AheadOf.f k a0 a1) (impl_AheadOf.f (k + 1) a0 a1) := by
  intro a0 a1 k
  unfold impl_AheadOf.f
  exact LeO.bind (impl_isStep.mono _ _ _) (fun _ => LeO.ite (LeO.bind (impl_reachable.mono _ _ _) (fun _ => LeO.bind (impl_AheadOf.lst_mono _ _ _ _ _ _ (fun _ => impl_AheadOf.pr_mono _ _ _ _ _)) (fun _ => LeO.refl _))) (LeO.refl _))
set_option maxHeartbeats 8000000 in
set_option maxRecDepth 100000 in
theorem impl_AheadOf.calls (k : Nat) (A0 : Option Addr) (c0 : Nat) (l0 : List (S51)) (a1 : Int) (r1 : List Int) (r2 : Bool) (w : World) (hr0 : Kd.C k51 w A0 l0.length l0) (hc0 : l0.length ≤ c0) (h : impl_AheadOf.f k l0 a1 = some (r1, r2)) :
    Calls Try.prog 28 #[.slice A0 l0.length c0, .int .i64 a1] w fun e w' => ∃ v0_ : Value, e = .returned (.tuple #[v0_, .bool r2]) ∧ Kd.R (Kd.int .i64) 3 w' w.heap.size (fun _ => True) v0_ r1 ∧ Below w.heap.size w w' := by
  have HR0 := Aside0.mk hr0
  have HC0 := Aside0.mk hc0
  clear hr0 hc0
  obtain ⟨t, A70, H⟩ := Option.bind_eq_some_iff.mp h
  have A7 := Aside0.mk A70
  clear A70 h
  have HB := Aside0.mk (Below.refl w.heap.size w)
  by_cases c8 : t = true
  · subst c8
    rw [if_pos rfl] at H
    obtain ⟨y, A80, H1⟩ := Option.bind_eq_some_iff.mp H
    have A8 := Aside0.mk A80
    clear A80 H
    obtain ⟨o, A90, H⟩ := Option.bind_eq_some_iff.mp H1
    have A9 := Aside0.mk A90
    clear A90 H1
    simp only [Option.some.injEq, Prod.mk.injEq] at H
    obtain ⟨rfl, rfl⟩ := H
    go_enter Try.func28, Try.ntmps28
    go_wp2_with (first | ((with_reducible refine gate_dst (N := 2) rfl ?_); refine boxq_ (N := 2) (cs := #[.slice A0 l0.length c0]) (t := 26) ?_; intro g2 hg w2 hbox hb; have GEg2 := Aside0.mk ((by rw [hg]; exact (below_size (bq_))) : w.heap.size ≤ g2); have n0_ := Aside0.mk (below_step (bq_) hb); clear HB; have HB := n0_; have BK2 := Aside0.mk hbox; clear n0_ hb hbox hg) | ((with_reducible refine gate_dst (N := 3) rfl ?_); refine boxq_ (N := 3) (cs := #[.int .i64 a1]) (t := 3) ?_; intro g3 hg w3 hbox hb; have GEg3 := Aside0.mk ((by rw [hg]; exact (below_size (bq_))) : w.heap.size ≤ g3); have NEg2g3 := Aside0.mk ((by rw [hg]; exact Nat.ne_of_lt (blk_lt (show _ from bk_ BK2.out))) : g2 ≠ g3); have mBK2_ := Aside0.mk (blk_below (bk_ BK2.out) hb); have n0_ := Aside0.mk (below_step (bq_) hb); clear HB BK2; have HB := n0_; have BK2 := mBK2_; clear mBK2_; have BK3 := Aside0.mk hbox; clear n0_ hb hbox hg; have hcz0 := cq_ BK2.out 0 (.slice A0 l0.length c0); have hcy0 := cq_ BK3.out 0 (.int .i64 a1)) | (go_at_call 44; refine (impl_isStep.calls k _ _ l0 a1 true _ (Kd.C_below HR0.out (bq_)) HC0.out A7.out).mono ?_; rintro e w4 ⟨rfl, hb⟩; have mBK2_ := Aside0.mk (blk_below (bk_ BK2.out) hb); have mBK3_ := Aside0.mk (blk_below (bk_ BK3.out) hb); have n0_ := Aside0.mk (below_step (bq_) hb); clear HB BK2 BK3; have HB := n0_; have BK2 := mBK2_; clear mBK2_; have BK3 := mBK3_; clear mBK3_; clear n0_ hb; clear hcz0 hcy0; have hcz0 := cq_ BK2.out 0 (.slice A0 l0.length c0); have hcy0 := cq_ BK3.out 0 (.int .i64 a1)) | (go_at_call 50; refine (impl_reachable.calls k _ _ l0 0 y _ (Kd.C_below HR0.out (bq_)) HC0.out A8.out).mono ?_; rintro e w5 ⟨v0, rfl, ho, hb⟩; obtain ⟨Ao, co, eo⟩ := Kd.R_slice ho; subst eo; have mBK2_ := Aside0.mk (blk_below (bk_ BK2.out) hb); have mBK3_ := Aside0.mk (blk_below (bk_ BK3.out) hb); have n0_ := Aside0.mk (below_step (bq_) hb); clear HB BK2 BK3; have HB := n0_; have BK2 := mBK2_; clear mBK2_; have BK3 := mBK3_; clear mBK3_; clear n0_ hb; have HO := Aside0.mk (Kd.R_reads' ho).2.2; clear ho hcz0 hcy0; have hcz0 := cq_ BK2.out 0 (.slice A0 l0.length c0)) | ((with_reducible refine gate_dst (N := 6) rfl ?_); refine boxq_ (N := 6) (cs := #[.slice none 0 0]) (t := 57) ?_; intro g6 hg w6 hbox hb; have GEg6 := Aside0.mk ((by rw [hg]; exact (below_size (bq_))) : w.heap.size ≤ g6); have NEg2g6 := Aside0.mk ((by rw [hg]; exact Nat.ne_of_lt (blk_lt (show _ from bk_ BK2.out))) : g2 ≠ g6); have mBK2_ := Aside0.mk (blk_below (bk_ BK2.out) hb); have NEg3g6 := Aside0.mk ((by rw [hg]; exact Nat.ne_of_lt (blk_lt (show _ from bk_ BK3.out))) : g3 ≠ g6); have mBK3_ := Aside0.mk (blk_below (bk_ BK3.out) hb); have n0_ := Aside0.mk (below_step (bq_) hb); clear HB BK2 BK3; have HB := n0_; have BK2 := mBK2_; clear mBK2_; have BK3 := mBK3_; clear mBK3_; have BK6 := Aside0.mk hbox; have HOB := Aside0.mk hb; have HGE := Aside0.mk hg; have HO6 := HO; clear n0_ hb hbox hg HO hcz0; have hcz0 := cq_ BK2.out 0 (.slice A0 l0.length c0); have hcx0 := cq_ BK6.out 0 (.slice none 0 0); have hfx0 := blk_frozen BK6.out 0; have hnb := NEg2g6.out; have hnc := Ne.symm NEg2g6.out) | (go_at_call 51; have n0_ := Aside0.mk (show Below w.heap.size w (w6.setCell ⟨g6, 0, none⟩ (.slice Ao y.length co)) from below_set HB.out GEg6.out); have n2_ := Aside0.mk (show (w6.setCell ⟨g6, 0, none⟩ (.slice Ao y.length co)).heap[g2]? = _ from blk_far BK2.out (p := ⟨g6, 0, none⟩) (show g2 ≠ g6 from NEg2g6.out) _); have n3_ := Aside0.mk (show (w6.setCell ⟨g6, 0, none⟩ (.slice Ao y.length co)).heap[g3]? = _ from blk_far BK3.out (p := ⟨g6, 0, none⟩) (show g3 ≠ g6 from NEg3g6.out) _); have n6_ := Aside0.mk (show (w6.setCell ⟨g6, 0, none⟩ (.slice Ao y.length co)).heap[g6]? = _ from blk_put (cs := #[.slice none 0 0]) (cs' := #[.slice Ao y.length co]) BK6.out 0 (.slice Ao y.length co) rfl); have n4_ := Aside0.mk (show Kd.C Kd.bool (w6.setCell ⟨g6, 0, none⟩ (.slice Ao y.length co)) Ao y.length y from Kd.C_below HO6.out (below_set HOB.out (by rw [HGE.out]; exact Nat.le_refl _))); generalize (w6.setCell ⟨g6, 0, none⟩ (.slice Ao y.length co)) = W6 at n0_ n2_ n3_ n4_ n6_ ⊢; clear HOB HGE HB BK2 BK3 BK6 HO6 hcz0 hcx0 hfx0; refine (impl_AheadOf.lst_calls k g6 g2 g3 (impl_AheadOf.pr k y l0 a1) (l0.length : Int) o _ (fun W x v hbW hv => impl_AheadOf.pr_calls k g6 g2 g3 Ao co y A0 c0 l0 a1 x v W (blk_below n6_.out hbW) (blk_below n2_.out hbW) (blk_below n3_.out hbW) (Kd.C_below n4_.out hbW) (Kd.C_below (Kd.C_below HR0.out n0_.out) hbW) HC0.out hv) A9.out).mono ?_; rintro e w7 ⟨v1, rfl, ho2, hb⟩; have HO2 := Aside0.mk (Kd.R_lower ho2 (below_size n0_.out)); have HB := Aside0.mk (below_step n0_.out hb); clear n0_ n2_ n3_ n4_ n6_ ho2 hb))
    go_ret2
    exact ⟨_, by first | rfl | (simp; done) | (simp [*]; done), rq_ HO2.out, bq_⟩
  · replace c8 := Bool.eq_false_iff.mpr c8
    subst c8
    rw [if_neg (by simp)] at H
    simp only [Option.some.injEq, Prod.mk.injEq] at H
    obtain ⟨rfl, rfl⟩ := H
    go_enter Try.func28, Try.ntmps28
    go_wp2_with (first | ((with_reducible refine gate_dst (N := 2) rfl ?_); refine boxq_ (N := 2) (cs := #[.slice A0 l0.length c0]) (t := 26) ?_; intro g2 hg w2 hbox hb; have GEg2 := Aside0.mk ((by rw [hg]; exact (below_size (bq_))) : w.heap.size ≤ g2); have n0_ := Aside0.mk (below_step (bq_) hb); clear HB; have HB := n0_; have BK2 := Aside0.mk hbox; clear n0_ hb hbox hg) | ((with_reducible refine gate_dst (N := 3) rfl ?_); refine boxq_ (N := 3) (cs := #[.int .i64 a1]) (t := 3) ?_; intro g3 hg w3 hbox hb; have GEg3 := Aside0.mk ((by rw [hg]; exact (below_size (bq_))) : w.heap.size ≤ g3); have NEg2g3 := Aside0.mk ((by rw [hg]; exact Nat.ne_of_lt (blk_lt (show _ from bk_ BK2.out))) : g2 ≠ g3); have mBK2_ := Aside0.mk (blk_below (bk_ BK2.out) hb); have n0_ := Aside0.mk (below_step (bq_) hb); clear HB BK2; have HB := n0_; have BK2 := mBK2_; clear mBK2_; have BK3 := Aside0.mk hbox; clear n0_ hb hbox hg; have hcz0 := cq_ BK2.out 0 (.slice A0 l0.length c0); have hcy0 := cq_ BK3.out 0 (.int .i64 a1)) | (go_at_call 44; refine (impl_isStep.calls k _ _ l0 a1 false _ (Kd.C_below HR0.out (bq_)) HC0.out A7.out).mono ?_; rintro e w4 ⟨rfl, hb⟩; have mBK2_ := Aside0.mk (blk_below (bk_ BK2.out) hb); have mBK3_ := Aside0.mk (blk_below (bk_ BK3.out) hb); have n0_ := Aside0.mk (below_step (bq_) hb); clear HB BK2 BK3; have HB := n0_; have BK2 := mBK2_; clear mBK2_; have BK3 := mBK3_; clear mBK3_; clear n0_ hb; clear hcz0 hcy0; have hcz0 := cq_ BK2.out 0 (.slice A0 l0.length c0); have hcy0 := cq_ BK3.out 0 (.int .i64 a1)))
    go_ret2
    exact ⟨_, by first | rfl | (simp; done) | (simp [*]; done), Kd.R_nil _ _ _ _ _, bq_⟩

end Go.Proofs.Ytcmhkgpalfljbaa.PIA
