import Derived.Test.YtcmhkgpalfljbaaPPAx0
import Derived.Test.YtcmhkgpalfljbaaPPAx3
import Derived.Test.YtcmhkgpalfljbaaPPAx4
import Derived.Test.YtcmhkgpalfljbaaPPAx5
import Derived.Test.YtcmhkgpalfljbaaPPAx6
namespace Go.Proofs.Ytcmhkgpalfljbaa.PPA
open Go.RowKit Go.Proofs.YtcmhkgpalfljbaaW.PrintWords Go.Proofs.YtcmhkgpalfljbaaW.PrintLast Go.Proofs.YtcmhkgpalfljbaaW.PrintMore
attribute [local go_sem] max2_int min2_int max_two min_two max_three min_three max_four min_four   -- for this text's walks alone
set_option linter.unusedVariables false
set_option linter.unusedSimpArgs false
def impl_AheadOf.pr (k : Nat) (l : List Bool) (q : List S51) (at_ i : Int) : Option Bool := if 0 ≤ i then (if i < (l.length : Int) then (if rdOf false l i = true then ((impl_nexts.f q i).bind fun t => slices_Contains_int_int.f k t at_) else some false) else none) else none
set_option maxHeartbeats 4000000 in
set_option maxRecDepth 100000 in
theorem impl_AheadOf.pr_calls (k B0 B1 B2 : Nat) (A : Option Addr) (c : Nat) (l : List Bool) (A2 : Option Addr) (c2 : Nat) (q : List S51) (at_ x : Int) (v : Bool) (w : World) (hB0 : w.heap[B0]? = some (.cells #[.slice A l.length c] 57 (0, 0))) (hB1 : w.heap[B1]? = some (.cells #[.slice A2 q.length c2] 26 (0, 0))) (hB2 : w.heap[B2]? = some (.cells #[.int .i64 at_] 3 (0, 0))) (hr : Kd.C Kd.bool w A l.length l) (hr2 : Kd.C k51 w A2 q.length q) (hl2 : q.length ≤ c2) (h : impl_AheadOf.pr k l q at_ x = some v) :
  Calls Try.prog 59 #[.int .i64 x, .pointer (some ⟨B0, 0, none⟩), .pointer (some ⟨B1, 0, none⟩), .pointer (some ⟨B2, 0, none⟩)] w fun e w' => e = .returned (.bool v) ∧ Below w.heap.size w w' := by
 have HR := am_ hr
 have HR2 := am_ hr2
 have HC2 := am_ hl2
 clear hr hr2 hl2
 unfold impl_AheadOf.pr at h
 have hc0 : w.cell? ⟨B0, 0, none⟩ = some (.slice A l.length c) := (blk_cell hB0 0).trans rfl
 have hc1 : w.cell? ⟨B1, 0, none⟩ = some (.slice A2 q.length c2) := (blk_cell hB1 0).trans rfl
 have hc2 : w.cell? ⟨B2, 0, none⟩ = some (.int .i64 at_) := (blk_cell hB2 0).trans rfl
 clear hB0 hB1 hB2
 by_cases c5 : 0 ≤ x
 ·rw [if_pos c5] at h
  by_cases c6 : x < (l.length : Int)
  ·rw [if_pos c6] at h
   obtain ⟨ad, e101, hx⟩ := Kd.at_bool HR.out x c5 c6
   cases e101
   have p101 := eq_true c5
   have q101 := eq_true c6
   clear c5 c6
   by_cases c7 : rdOf false l x = true
   ·rw [if_pos c7] at h
    rw [c7] at hx
    obtain ⟨t, A70, h⟩ := Option.bind_eq_some_iff.mp h
    have A7 := am_ A70
    have A8 := am_ h
    clear A70 h c7
    go_enter Try.func59, Try.ntmps59
    go_wp2
    refine start_ (n := 12) (S := fun w' => w'.cell? ⟨B0, 0, none⟩ = some (.slice (some ad) l.length c) ∧ w'.cell? ⟨B1, 0, none⟩ = some (.slice A2 q.length c2) ∧ w'.cell? ⟨B2, 0, none⟩ = some (.int .i64 at_) ∧ w'.cell? (ad.add x.toNat) = some (.bool true)) (ds := [9]) #[false, false, false, false, false, false, false, false, false, false, false, false] (by kernel_rfl) rfl rfl ⟨hc0, hc1, hc2, hx⟩ (fun hHeld => ?_)
    have HBD := am_ (show Below w.heap.size w w.drew from below_drew (Below.refl _ _))
    clear hc0 hc1 hc2 hx
    generalize w.drew = w9 at HBD hHeld ⊢
    refine take_ (i := 0) (N := some 6) (v := ?_) (a' := ?_) #[true, false, false, false, false, false, false, false, false, false, false, false] rfl rfl (by kernel_rfl) (fun _ _ _ h => h) (Or.inl ⟨by rfl, ?_⟩) hHeld ?_ ?_
    rotate_left
    ·rintro w' ⟨s0, s1, s2, s3⟩
     go_simp
     with_reducible rfl
    rotate_left
    ·simp only [Act.put, List.setIfInBounds_toArray, List.set_cons_zero, List.set_cons_succ, i64_w, i32_w]
     rfl
    refine pure_ (i := 1) (N := some 7) (v := ?_) (a' := ?_) #[true, true, false, false, false, false, false, false, false, false, false, false] rfl rfl (by kernel_rfl) (fun _ _ _ h => h) (Or.inl ⟨by rfl, ?_⟩) ?_ ?_
    rotate_left
    ·intro w'
     go_simp
     with_reducible rfl
    rotate_left
    ·simp only [Act.put, List.setIfInBounds_toArray, List.set_cons_zero, List.set_cons_succ, i64_w, i32_w]
     rfl
    refine pure_ (i := 2) (N := some 8) (v := ?_) (a' := ?_) #[true, true, true, false, false, false, false, false, false, false, false, false] rfl rfl (by kernel_rfl) (fun _ _ _ h => h) (Or.inl ⟨by rfl, ?_⟩) ?_ ?_
    rotate_left
    ·intro w'
     go_simp
     with_reducible rfl
    rotate_left
    ·simp only [Act.put, List.setIfInBounds_toArray, List.set_cons_zero, List.set_cons_succ, i64_w, i32_w]
     rfl
    refine take_ (i := 3) (N := some 9) (v := ?_) (a' := ?_) #[true, true, true, true, false, false, false, false, false, false, false, false] rfl rfl (by kernel_rfl) (fun _ _ _ h => h) (Or.inl ⟨by rfl, ?_⟩) hHeld ?_ ?_
    rotate_left
    ·rintro w' ⟨s0, s1, s2, s3⟩
     go_simp
     with_reducible rfl
    rotate_left
    ·simp only [Act.put, List.setIfInBounds_toArray, List.set_cons_zero, List.set_cons_succ, i64_w, i32_w]
     rfl
    refine pure_ (i := 4) (N := some 10) (v := ?_) (a' := ?_) #[true, true, true, true, true, false, false, false, false, false, false, false] rfl rfl (by kernel_rfl) (fun _ _ _ h => h) (Or.inl ⟨by rfl, ?_⟩) ?_ ?_
    rotate_left
    ·intro w'
     go_simp
     with_reducible rfl
    rotate_left
    ·simp only [Act.put, List.setIfInBounds_toArray, List.set_cons_zero, List.set_cons_succ, i64_w, i32_w]
     rfl
    refine take_ (i := 5) (N := some 11) (v := ?_) (a' := ?_) #[true, true, true, true, true, true, false, false, false, false, false, false] rfl rfl (by kernel_rfl) (fun _ _ _ h => h) (Or.inl ⟨by rfl, ?_⟩) hHeld ?_ ?_
    rotate_left
    ·rintro w' ⟨s0, s1, s2, s3⟩
     go_simp
     with_reducible rfl
    rotate_left
    ·simp only [Act.put, List.setIfInBounds_toArray, List.set_cons_zero, List.set_cons_succ, i64_w, i32_w]
     rfl
    refine pure_ (i := 6) (N := some 12) (v := ?_) (a' := ?_) #[true, true, true, true, true, true, true, false, false, false, false, false] rfl rfl (by kernel_rfl) (fun _ _ _ h => h) (Or.inl ⟨by rfl, ?_⟩) ?_ ?_
    rotate_left
    ·intro w'
     go_simp
     with_reducible rfl
    rotate_left
    ·simp only [Act.put, List.setIfInBounds_toArray, List.set_cons_zero, List.set_cons_succ, i64_w, i32_w]
     rfl
    refine take_ (i := 8) (N := some 14) (v := ?_) (a' := ?_) #[true, true, true, true, true, true, true, false, true, false, false, false] rfl rfl (by kernel_rfl) (fun _ _ _ h => h) (Or.inl ⟨by rfl, ?_⟩) hHeld ?_ ?_
    rotate_left
    ·rintro w' ⟨s0, s1, s2, s3⟩
     go_simp
     with_reducible rfl
    rotate_left
    ·simp only [Act.put, List.setIfInBounds_toArray, List.set_cons_zero, List.set_cons_succ, i64_w, i32_w]
     rfl
    refine one_ (i := 7) (N := some 13) #[true, true, true, true, true, true, true, true, true, false, false, false] rfl rfl (by kernel_rfl) (by decide) (fun K hK => ?_)
    refine goes_ Try.func61 (by kernel_rfl) rfl #[.slice A2 q.length c2, .int .i64 x] (by rfl) rfl rfl (by (try simp only [List.map_toArray, List.map_cons, List.map_nil]); first | done | rfl) ?_
    refine (impl_nexts.calls _ _ q x t _ (Kd.C_below HR2.out HBD.out) HC2.out A7.out).mono ?_
    rintro e w10 ⟨v1, rfl, ho, hb⟩
    refine ⟨_, rfl, ?_⟩
    obtain ⟨Ao, co, eo⟩ := Kd.R_slice ho
    subst eo
    have HO := am_ ho
    have HBD2 := am_ (below_step HBD.out hb)
    refine hK.out _ _ ⟨pw_cell_below hb hHeld.1, pw_cell_below hb hHeld.2.1, pw_cell_below hb hHeld.2.2.1, pw_cell_below hb hHeld.2.2.2⟩ (fun hHeld2 => ?_)
    clear hK K hHeld hb ho
    refine norm_ (a' := ?_) ?_ ?_
    rotate_left
    ·show Act.put _ (some 13) _ = _
     simp only [Act.put, List.setIfInBounds_toArray, List.set_cons_zero, List.set_cons_succ, i64_w, i32_w]
     rfl
    refine last_ (i := 9) (N := some 15) #[true, true, true, true, true, true, true, true, true, true, false, false] rfl rfl (by kernel_rfl) (by decide) (fun K hK => ?_)
    refine goes_ Try.func60 (by kernel_rfl) rfl #[.slice Ao t.length co, .int .i64 at_] (by rfl) rfl rfl (by (try simp only [List.map_toArray, List.map_cons, List.map_nil]); first | done | rfl) ?_
    refine (slices_Contains_int_int.calls k _ _ t at_ v _ (Kd.R_reads' HO.out).2.2 (Kd.R_reads' HO.out).2.1 A8.out).mono ?_
    rintro e w11 ⟨rfl, ⟨nd, rfl⟩⟩
    refine ⟨_, rfl, ?_⟩
    refine hK.out _ _ ?_
    clear hK K
    refine norm_ (a' := ?_) ?_ ?_
    rotate_left
    ·show Act.put _ (some 15) _ = _
     simp only [Act.put, List.setIfInBounds_toArray, List.set_cons_zero, List.set_cons_succ, i64_w, i32_w]
     rfl
    refine pure_ (i := 10) (N := some 16) (v := ?_) (a' := ?_) #[true, true, true, true, true, true, true, true, true, true, true, false] rfl rfl (by kernel_rfl) (fun _ _ _ h => h) (Or.inl ⟨by rfl, ?_⟩) ?_ ?_
    rotate_left
    ·intro w'
     go_simp
     with_reducible rfl
    rotate_left
    ·simp only [Act.put, List.setIfInBounds_toArray, List.set_cons_zero, List.set_cons_succ, i64_w, i32_w]
     rfl
    refine pure_ (i := 11) (N := some 5) (v := ?_) (a' := ?_) #[true, true, true, true, true, true, true, true, true, true, true, true] rfl rfl (by kernel_rfl) (fun _ _ _ h => h) (Or.inl ⟨by rfl, ?_⟩) ?_ ?_
    rotate_left
    ·intro w'
     go_simp
     with_reducible rfl
    rotate_left
    ·simp only [Act.put, List.setIfInBounds_toArray, List.set_cons_zero, List.set_cons_succ, i64_w, i32_w]
     rfl
    refine done_ (by kernel_rfl) ?_
    go_wp2
    go_ret
    exact ⟨by first | rfl | (simp; done) | (simp [*]; done), pw_below_drewN HBD2.out _⟩
   ·rw [if_neg c7] at h
    rw [Bool.eq_false_iff.mpr c7] at hx
    obtain rfl := Option.some.inj h
    clear h c7
    go_enter Try.func59, Try.ntmps59
    go_wp2
    refine start_ (n := 12) (S := fun w' => w'.cell? ⟨B0, 0, none⟩ = some (.slice (some ad) l.length c) ∧ w'.cell? ⟨B1, 0, none⟩ = some (.slice A2 q.length c2) ∧ w'.cell? ⟨B2, 0, none⟩ = some (.int .i64 at_) ∧ w'.cell? (ad.add x.toNat) = some (.bool false)) (ds := [9]) #[false, false, false, false, false, false, false, false, false, false, false, false] (by kernel_rfl) rfl rfl ⟨hc0, hc1, hc2, hx⟩ (fun hHeld => ?_)
    have HBD := am_ (show Below w.heap.size w w.drew from below_drew (Below.refl _ _))
    clear hc0 hc1 hc2 hx
    generalize w.drew = w9 at HBD hHeld ⊢
    refine take_ (i := 0) (N := some 6) (v := ?_) (a' := ?_) #[true, false, false, false, false, false, false, false, false, false, false, false] rfl rfl (by kernel_rfl) (fun _ _ _ h => h) (Or.inl ⟨by rfl, ?_⟩) hHeld ?_ ?_
    rotate_left
    ·rintro w' ⟨s0, s1, s2, s3⟩
     go_simp
     with_reducible rfl
    rotate_left
    ·simp only [Act.put, List.setIfInBounds_toArray, List.set_cons_zero, List.set_cons_succ, i64_w, i32_w]
     rfl
    refine pure_ (i := 1) (N := some 7) (v := ?_) (a' := ?_) #[true, true, false, false, false, false, false, false, false, false, false, false] rfl rfl (by kernel_rfl) (fun _ _ _ h => h) (Or.inl ⟨by rfl, ?_⟩) ?_ ?_
    rotate_left
    ·intro w'
     go_simp
     with_reducible rfl
    rotate_left
    ·simp only [Act.put, List.setIfInBounds_toArray, List.set_cons_zero, List.set_cons_succ, i64_w, i32_w]
     rfl
    refine pure_ (i := 2) (N := some 8) (v := ?_) (a' := ?_) #[true, true, true, false, false, false, false, false, false, false, false, false] rfl rfl (by kernel_rfl) (fun _ _ _ h => h) (Or.inl ⟨by rfl, ?_⟩) ?_ ?_
    rotate_left
    ·intro w'
     go_simp
     with_reducible rfl
    rotate_left
    ·simp only [Act.put, List.setIfInBounds_toArray, List.set_cons_zero, List.set_cons_succ, i64_w, i32_w]
     rfl
    refine take_ (i := 3) (N := some 9) (v := ?_) (a' := ?_) #[true, true, true, true, false, false, false, false, false, false, false, false] rfl rfl (by kernel_rfl) (fun _ _ _ h => h) (Or.inl ⟨by rfl, ?_⟩) hHeld ?_ ?_
    rotate_left
    ·rintro w' ⟨s0, s1, s2, s3⟩
     go_simp
     with_reducible rfl
    rotate_left
    ·simp only [Act.put, List.setIfInBounds_toArray, List.set_cons_zero, List.set_cons_succ, i64_w, i32_w]
     rfl
    refine pure_ (i := 4) (N := some 10) (v := ?_) (a' := ?_) #[true, true, true, true, true, false, false, false, false, false, false, false] rfl rfl (by kernel_rfl) (fun _ _ _ h => h) (Or.inl ⟨by rfl, ?_⟩) ?_ ?_
    rotate_left
    ·intro w'
     go_simp
     with_reducible rfl
    rotate_left
    ·simp only [Act.put, List.setIfInBounds_toArray, List.set_cons_zero, List.set_cons_succ, i64_w, i32_w]
     rfl
    refine pure_ (i := 5) (N := some 11) (v := undef) (a' := ?_) #[true, true, true, true, true, true, false, false, false, false, false, false] rfl rfl (by kernel_rfl) (fun _ _ _ h => h) (Or.inr ⟨by rfl, rfl⟩) ?_ ?_
    rotate_left
    ·simp only [Act.put, List.setIfInBounds_toArray, List.set_cons_zero, List.set_cons_succ, i64_w, i32_w]
     rfl
    refine pure_ (i := 6) (N := some 12) (v := undef) (a' := ?_) #[true, true, true, true, true, true, true, false, false, false, false, false] rfl rfl (by kernel_rfl) (fun _ _ _ h => h) (Or.inr ⟨by rfl, rfl⟩) ?_ ?_
    rotate_left
    ·simp only [Act.put, List.setIfInBounds_toArray, List.set_cons_zero, List.set_cons_succ, i64_w, i32_w]
     rfl
    refine pure_ (i := 7) (N := some 13) (v := undef) (a' := ?_) #[true, true, true, true, true, true, true, true, false, false, false, false] rfl rfl (by kernel_rfl) (fun _ _ _ h => h) (Or.inr ⟨by rfl, rfl⟩) ?_ ?_
    rotate_left
    ·simp only [Act.put, List.setIfInBounds_toArray, List.set_cons_zero, List.set_cons_succ, i64_w, i32_w]
     rfl
    refine pure_ (i := 8) (N := some 14) (v := undef) (a' := ?_) #[true, true, true, true, true, true, true, true, true, false, false, false] rfl rfl (by kernel_rfl) (fun _ _ _ h => h) (Or.inr ⟨by rfl, rfl⟩) ?_ ?_
    rotate_left
    ·simp only [Act.put, List.setIfInBounds_toArray, List.set_cons_zero, List.set_cons_succ, i64_w, i32_w]
     rfl
    refine pure_ (i := 9) (N := some 15) (v := undef) (a' := ?_) #[true, true, true, true, true, true, true, true, true, true, false, false] rfl rfl (by kernel_rfl) (fun _ _ _ h => h) (Or.inr ⟨by rfl, rfl⟩) ?_ ?_
    rotate_left
    ·simp only [Act.put, List.setIfInBounds_toArray, List.set_cons_zero, List.set_cons_succ, i64_w, i32_w]
     rfl
    refine pure_ (i := 10) (N := some 16) (v := ?_) (a' := ?_) #[true, true, true, true, true, true, true, true, true, true, true, false] rfl rfl (by kernel_rfl) (fun _ _ _ h => h) (Or.inl ⟨by rfl, ?_⟩) ?_ ?_
    rotate_left
    ·intro w'
     go_simp
     with_reducible rfl
    rotate_left
    ·simp only [Act.put, List.setIfInBounds_toArray, List.set_cons_zero, List.set_cons_succ, i64_w, i32_w]
     rfl
    refine pure_ (i := 11) (N := some 5) (v := ?_) (a' := ?_) #[true, true, true, true, true, true, true, true, true, true, true, true] rfl rfl (by kernel_rfl) (fun _ _ _ h => h) (Or.inl ⟨by rfl, ?_⟩) ?_ ?_
    rotate_left
    ·intro w'
     go_simp
     with_reducible rfl
    rotate_left
    ·simp only [Act.put, List.setIfInBounds_toArray, List.set_cons_zero, List.set_cons_succ, i64_w, i32_w]
     rfl
    refine done_ (by kernel_rfl) ?_
    go_wp2
    go_ret
    exact ⟨by first | rfl | (simp; done) | (simp [*]; done), HBD.out⟩
  ·rw [if_neg c6] at h; cases h
 ·rw [if_neg c5] at h; cases h
def impl_AheadOf.lst : Nat → (Int → Option Bool) → Int → List Int → Int → Option (List Int)
 | 0, _, _, _, _ => none
 | k + 1, p, many, out, i => if i < many then ((p i).bind fun t => (if t = true then (if out.length < 17592186044416 then impl_AheadOf.lst k p many (out ++ [i]) (wrap64 (i + 1)) else none) else impl_AheadOf.lst k p many out (wrap64 (i + 1)))) else some out
set_option maxHeartbeats 8000000 in
set_option maxRecDepth 100000 in
theorem impl_AheadOf.lst_calls (k : Nat) (B0 B1 B2 : Nat) (p : Int → Option Bool) (many : Int) (r : List Int) (w : World)
  (hp : ∀ (W : World) (x : Int) (v : Bool), Below w.heap.size w W → p x = some v → Calls Try.prog 59 #[.int .i64 x, .pointer (some ⟨B0, 0, none⟩), .pointer (some ⟨B1, 0, none⟩), .pointer (some ⟨B2, 0, none⟩)] W fun e w' => e = .returned (.bool v) ∧ Below W.heap.size W w')
  (h : impl_AheadOf.lst k p many [] 0 = some r) :
  Calls Try.prog 51 #[.int .i64 many, .func (.func 59) #[] #[.pointer (some ⟨B0, 0, none⟩), .pointer (some ⟨B1, 0, none⟩), .pointer (some ⟨B2, 0, none⟩)]] w fun e w' => ∃ v0_ : Value, e = .returned v0_ ∧ Kd.R (Kd.int .i64) 3 w' w.heap.size (fun _ => True) v0_ r ∧ Below w.heap.size w w' := by
 have H' := am_ h
 clear h
 have HB := am_ (Below.refl w.heap.size w)
 have HP := am_ hp
 clear hp
 have eg := fun args w => enters_ (P := Try.prog) Try.func59 (by kernel_rfl) rfl args w
 go_enter Try.func51, Try.ntmps51
 go_wp2
 go_loopg [5, 8] k (fun kq v5 v8 w' => ∃ (o : List Int) (x : Int), v8 = .int .i64 x ∧ Aside0 (impl_AheadOf.lst kq p many o x = some r) ∧ Aside0 (kq ≤ k) ∧ Aside0 (Kd.R (Kd.int .i64) 3 w' w.heap.size (fun _ => True) v5 o) ∧ Aside0 (Below w.heap.size w w'))
 case atStart => exact ⟨[], (0), y14_, H', ⟨Nat.le_refl _⟩, ⟨Kd.R_nil _ _ _ _ _⟩, ⟨bq_⟩⟩
 case round =>
  clear H' HB
  obtain ⟨o, x, rfl, HA, HK1, HO, HB⟩ := hrel
  cases gk with
  | zero => exact absurd HA.out (by simp [impl_AheadOf.lst])
  | succ k1 =>
   have H := HA.out
   clear HA
   simp only [impl_AheadOf.lst] at H
   by_cases c4 : x < many
   ·rw [if_pos c4] at H
    have c4b0 : decide (x < many) = true := decide_eq_true c4
    clear c4
    obtain ⟨t, A70, H⟩ := Option.bind_eq_some_iff.mp H
    have A7 := am_ A70
    clear A70
    by_cases c8 : t = true
    ·subst c8
     rw [if_pos rfl] at H
     by_cases c12 : o.length < 17592186044416
     ·rw [if_pos c12] at H
      have LMc12 := am_ c12
      clear c12
      have H' := am_ H
      clear H
      go_wp2_with (first | (go_at_call 59; refine (HP.out _ x true (bq_) A7.out).mono ?_; rintro e w6 ⟨rfl, hb⟩; replace HB := bs_ hb; replace HO := am_ (Kd.R_below (rq_ HO.out) hb); clear hb) | ((with_reducible refine gate_builtin (b := .append) (xs := #[.tmp 14, .tmp 16]) rfl ?_); at_builtin; refine Kd.R_append (Kd.int .i64) (w0 := w) w.heap.size rfl (.tmp 14) (.tmp 16) 30 3 (.int .i64 0) 8 rfl Try.underlying30 info3 rfl (by decide) (by omega) u5 o x [.int .i64 x] (fun _ => True) (fun _ => False) rfl rfl ?aP (fun _ hk => hk.elim) ?aF ?aO ?aB ?aS ?aL ?_; (case aP => exact rfl); (case aB => exact (bq_)); (case aF => exact (fun _ _ => trivial)); (case aO => exact (rq_ HO.out)); (case aS => exact (below_size (bq_))); (case aL => have := LMc12.out; omega); intro v121 w13 ho hb hg hat; replace HB := am_ hb; replace HO := am_ ho; clear ho hb hg hat))
      go_roundg k1
      case measure => have := HK1.out; omega
      case rel => exact ⟨_, (wrap64 (x + 1)), y14_, H', ⟨by have := HK1.out; omega⟩, ⟨rq_ HO.out⟩, ⟨bq_⟩⟩
     ·rw [if_neg c12] at H
      exact absurd H (by simp)
    ·replace c8 := Bool.eq_false_iff.mpr c8
     subst c8
     rw [if_neg (by simp)] at H
     have H' := am_ H
     clear H
     go_wp2_with (go_at_call 59; refine (HP.out _ x false (bq_) A7.out).mono ?_; rintro e w6 ⟨rfl, hb⟩; replace HB := bs_ hb; replace HO := am_ (Kd.R_below (rq_ HO.out) hb); clear hb)
     go_roundg k1
     case measure => have := HK1.out; omega
     case rel => exact ⟨_, (wrap64 (x + 1)), y14_, H', ⟨by have := HK1.out; omega⟩, ⟨rq_ HO.out⟩, ⟨bq_⟩⟩
   ·rw [if_neg c4] at H
    have c4b0 : decide (x < many) = false := decide_eq_false c4
    clear c4
    obtain rfl := Option.some.inj H
    clear H
    go_wp2
    go_ret
    exact ⟨_, by first | rfl | (simp; done) | (simp [*]; done), rq_ HO.out, bq_⟩
def impl_AheadOf.f (k : Nat) (l0 : List (S51)) (a1 : Int) : Option (List Int × Bool) := (impl_isStep.f k l0 a1).bind fun t => if t = true then ((impl_reachable.f k l0 0).bind fun y => (impl_AheadOf.lst k (impl_AheadOf.pr k y l0 a1) (l0.length : Int) [] 0).bind fun o => some (o, true)) else some (([] : List Int), false)
set_option maxHeartbeats 8000000 in
set_option maxRecDepth 100000 in
theorem impl_AheadOf.calls (k : Nat) (A0 : Option Addr) (c0 : Nat) (l0 : List (S51)) (a1 : Int) (r1 : List Int) (r2 : Bool) (w : World) (hr0 : Kd.C k51 w A0 l0.length l0) (hc0 : l0.length ≤ c0) (h : impl_AheadOf.f k l0 a1 = some (r1, r2)) :
  Calls Try.prog 28 #[.slice A0 l0.length c0, .int .i64 a1] w fun e w' => ∃ v0_ : Value, e = .returned (.tuple #[v0_, .bool r2]) ∧ Kd.R (Kd.int .i64) 3 w' w.heap.size (fun _ => True) v0_ r1 ∧ Below w.heap.size w w' := by
 have HR0 := am_ hr0
 have HC0 := am_ hc0
 clear hr0 hc0
 obtain ⟨t, A70, H⟩ := Option.bind_eq_some_iff.mp h
 have A7 := am_ A70
 clear A70 h
 have HB := am_ (Below.refl w.heap.size w)
 by_cases c8 : t = true
 ·subst c8
  rw [if_pos rfl] at H
  obtain ⟨y, A80, H1⟩ := Option.bind_eq_some_iff.mp H
  have A8 := am_ A80
  clear A80 H
  obtain ⟨o, A90, H⟩ := Option.bind_eq_some_iff.mp H1
  have A9 := am_ A90
  clear A90 H1
  simp only [Option.some.injEq, Prod.mk.injEq] at H
  obtain ⟨rfl, rfl⟩ := H
  go_enter Try.func28, Try.ntmps28
  go_wp2_with (first | ((with_reducible refine gate_dst (N := 2) rfl ?_); refine boxq_ (N := 2) (cs := #[.slice A0 l0.length c0]) (t := 26) ?_; intro g2 hg w2 hbox hb; have GEg2 := am_ (y16_ : w.heap.size ≤ g2); have n0_ := bs_ hb; clear HB; have HB := n0_; have BK2 := am_ hbox; clear n0_ hb hbox hg) | ((with_reducible refine gate_dst (N := 3) rfl ?_); refine boxq_ (N := 3) (cs := #[.int .i64 a1]) (t := 3) ?_; intro g3 hg w3 hbox hb; have GEg3 := am_ (y16_ : w.heap.size ≤ g3); have NEg2g3 := am_ (y13_ : g2 ≠ g3); have mBK2_ := bb_ BK2 hb; have n0_ := bs_ hb; clear HB BK2; have HB := n0_; have BK2 := mBK2_; clear mBK2_; have BK3 := am_ hbox; clear n0_ hb hbox hg; have hcz0 := cq_ BK2.out 0 (.slice A0 l0.length c0); have hcy0 := cq_ BK3.out 0 (.int .i64 a1)) | (go_at_call 44; refine (impl_isStep.calls k _ _ l0 a1 true _ (Kd.C_below HR0.out (bq_)) HC0.out A7.out).mono ?_; rintro e w4 ⟨rfl, hb⟩; have mBK2_ := bb_ BK2 hb; have mBK3_ := bb_ BK3 hb; have n0_ := bs_ hb; clear HB BK2 BK3; have HB := n0_; have BK2 := mBK2_; clear mBK2_; have BK3 := mBK3_; clear mBK3_; clear n0_ hb; clear hcz0 hcy0; have hcz0 := cq_ BK2.out 0 (.slice A0 l0.length c0); have hcy0 := cq_ BK3.out 0 (.int .i64 a1)) | (go_at_call 50; refine (impl_reachable.calls k _ _ l0 0 y _ (Kd.C_below HR0.out (bq_)) HC0.out A8.out).mono ?_; rintro e w5 ⟨v0, rfl, ho, hb⟩; obtain ⟨Ao, co, eo⟩ := Kd.R_slice ho; subst eo; have mBK2_ := bb_ BK2 hb; have mBK3_ := bb_ BK3 hb; have n0_ := bs_ hb; clear HB BK2 BK3; have HB := n0_; have BK2 := mBK2_; clear mBK2_; have BK3 := mBK3_; clear mBK3_; clear n0_ hb; have HO := am_ (Kd.R_reads' ho).2.2; clear ho hcz0 hcy0; have hcz0 := cq_ BK2.out 0 (.slice A0 l0.length c0)) | ((with_reducible refine gate_dst (N := 6) rfl ?_); refine boxq_ (N := 6) (cs := #[.slice none 0 0]) (t := 57) ?_; intro g6 hg w6 hbox hb; have GEg6 := am_ (y16_ : w.heap.size ≤ g6); have NEg2g6 := am_ (y13_ : g2 ≠ g6); have mBK2_ := bb_ BK2 hb; have NEg3g6 := am_ ((by rw [hg]; exact Nat.ne_of_lt (blk_lt (show _ from bk_ BK3.out))) : g3 ≠ g6); have mBK3_ := bb_ BK3 hb; have n0_ := bs_ hb; clear HB BK2 BK3; have HB := n0_; have BK2 := mBK2_; clear mBK2_; have BK3 := mBK3_; clear mBK3_; have BK6 := am_ hbox; have HOB := am_ hb; have HGE := am_ hg; have HO6 := HO; clear n0_ hb hbox hg HO hcz0; have hcz0 := cq_ BK2.out 0 (.slice A0 l0.length c0); have hcx0 := cq_ BK6.out 0 (.slice none 0 0); have hfx0 := blk_frozen BK6.out 0; have hnb := NEg2g6.out; have hnc := Ne.symm NEg2g6.out) | (go_at_call 51; have n0_ := am_ (show Below w.heap.size w (w6.setCell ⟨g6, 0, none⟩ (.slice Ao y.length co)) from below_set HB.out GEg6.out); have n2_ := am_ (show (w6.setCell ⟨g6, 0, none⟩ (.slice Ao y.length co)).heap[g2]? = _ from blk_far BK2.out (p := ⟨g6, 0, none⟩) (show g2 ≠ g6 from NEg2g6.out) _); have n3_ := am_ (show (w6.setCell ⟨g6, 0, none⟩ (.slice Ao y.length co)).heap[g3]? = _ from blk_far BK3.out (p := ⟨g6, 0, none⟩) (show g3 ≠ g6 from NEg3g6.out) _); have n6_ := am_ (show (w6.setCell ⟨g6, 0, none⟩ (.slice Ao y.length co)).heap[g6]? = _ from blk_put (cs := #[.slice none 0 0]) (cs' := #[.slice Ao y.length co]) BK6.out 0 (.slice Ao y.length co) rfl); have n4_ := am_ (show Kd.C Kd.bool (w6.setCell ⟨g6, 0, none⟩ (.slice Ao y.length co)) Ao y.length y from Kd.C_below HO6.out (below_set HOB.out (by rw [HGE.out]; exact Nat.le_refl _))); generalize (w6.setCell ⟨g6, 0, none⟩ (.slice Ao y.length co)) = W6 at n0_ n2_ n3_ n4_ n6_ ⊢; clear HOB HGE HB BK2 BK3 BK6 HO6 hcz0 hcx0 hfx0; refine (impl_AheadOf.lst_calls k g6 g2 g3 (impl_AheadOf.pr k y l0 a1) (l0.length : Int) o _ (fun W x v hbW hv => impl_AheadOf.pr_calls k g6 g2 g3 Ao co y A0 c0 l0 a1 x v W (blk_below n6_.out hbW) (blk_below n2_.out hbW) (blk_below n3_.out hbW) (Kd.C_below n4_.out hbW) (Kd.C_below (Kd.C_below HR0.out n0_.out) hbW) HC0.out hv) A9.out).mono ?_; rintro e w7 ⟨v1, rfl, ho2, hb⟩; have HO2 := am_ (Kd.R_lower ho2 (below_size n0_.out)); have HB := am_ (below_step n0_.out hb); clear n0_ n2_ n3_ n4_ n6_ ho2 hb))
  go_ret2
  exact ⟨_, by first | rfl | (simp; done) | (simp [*]; done), rq_ HO2.out, bq_⟩
 ·replace c8 := Bool.eq_false_iff.mpr c8
  subst c8
  rw [if_neg (by simp)] at H
  simp only [Option.some.injEq, Prod.mk.injEq] at H
  obtain ⟨rfl, rfl⟩ := H
  go_enter Try.func28, Try.ntmps28
  go_wp2_with (first | ((with_reducible refine gate_dst (N := 2) rfl ?_); refine boxq_ (N := 2) (cs := #[.slice A0 l0.length c0]) (t := 26) ?_; intro g2 hg w2 hbox hb; have GEg2 := am_ (y16_ : w.heap.size ≤ g2); have n0_ := bs_ hb; clear HB; have HB := n0_; have BK2 := am_ hbox; clear n0_ hb hbox hg) | ((with_reducible refine gate_dst (N := 3) rfl ?_); refine boxq_ (N := 3) (cs := #[.int .i64 a1]) (t := 3) ?_; intro g3 hg w3 hbox hb; have GEg3 := am_ (y16_ : w.heap.size ≤ g3); have NEg2g3 := am_ (y13_ : g2 ≠ g3); have mBK2_ := bb_ BK2 hb; have n0_ := bs_ hb; clear HB BK2; have HB := n0_; have BK2 := mBK2_; clear mBK2_; have BK3 := am_ hbox; clear n0_ hb hbox hg; have hcz0 := cq_ BK2.out 0 (.slice A0 l0.length c0); have hcy0 := cq_ BK3.out 0 (.int .i64 a1)) | (go_at_call 44; refine (impl_isStep.calls k _ _ l0 a1 false _ (Kd.C_below HR0.out (bq_)) HC0.out A7.out).mono ?_; rintro e w4 ⟨rfl, hb⟩; have mBK2_ := bb_ BK2 hb; have mBK3_ := bb_ BK3 hb; have n0_ := bs_ hb; clear HB BK2 BK3; have HB := n0_; have BK2 := mBK2_; clear mBK2_; have BK3 := mBK3_; clear mBK3_; clear n0_ hb; clear hcz0 hcy0; have hcz0 := cq_ BK2.out 0 (.slice A0 l0.length c0); have hcy0 := cq_ BK3.out 0 (.int .i64 a1)))
  go_ret2
  exact ⟨_, by first | rfl | (simp; done) | (simp [*]; done), Kd.R_nil _ _ _ _ _, bq_⟩
def spec_l11There.f (k : Nat) (l0 : List (S51)) (a1 : Int) : Option (Bool) := (spec_GoodProgram.f k l0).bind fun t234 => (if t234 = true then (if a1 ≥ 0 then (some (decide (a1 < (l0.length : Int)))) else (some false)) else (some false))
set_option maxHeartbeats 8000000 in
set_option maxRecDepth 100000 in
theorem spec_l11There.calls (k : Nat) (A0 : Option Addr) (c0 : Nat) (l0 : List (S51)) (a1 : Int) (r : Bool) (w : World) (hr0 : Kd.C k51 w A0 l0.length l0) (hc0 : l0.length ≤ c0) (h : spec_l11There.f k l0 a1 = some r) :
  Calls Try.prog 41 #[.slice A0 l0.length c0, .int .i64 a1] w fun e w' => e = .returned (.bool r) ∧ Below w.heap.size w w' := by
 have HR0 := am_ hr0
 have HC0 := am_ hc0
 clear hr0 hc0
 have HB := am_ (Below.refl w.heap.size w)
 have H : ((spec_GoodProgram.f k l0).bind fun t234 => (if t234 = true then (if a1 ≥ 0 then (some (decide (a1 < (l0.length : Int)))) else (some false)) else (some false))) = some r := h
 clear h
 replace H := Option.bind_eq_some_iff.mp H
 obtain ⟨t234, A30, H⟩ := H
 replace H : (if t234 = true then (if a1 ≥ 0 then (some (decide (a1 < (l0.length : Int)))) else (some false)) else (some false)) = some r := H
 have A3 := am_ A30
 clear A30
 by_cases c4 : t234 = true
 ·subst c4
  have H1 : (if a1 ≥ 0 then (some (decide (a1 < (l0.length : Int)))) else (some false)) = some r := by rw [if_pos rfl] at H; exact H
  clear H
  have H := H1
  clear H1
  by_cases c5 : a1 ≥ 0
  ·rw [if_pos c5] at H
   have c5b0 : decide (0 ≤ a1) = true := decide_eq_true c5
   clear c5
   obtain rfl := Option.some.inj H
   go_enter Try.func41, Try.ntmps41
   go_wp2_with (first | ((with_reducible refine gl_ 47 rfl ?_); refine goesM_ (some 6) Try.func47 #[.slice A0 l0.length c0] ?_; (with_reducible refine (spec_GoodProgram.calls k _ _ l0 true _ ?side1 ?side2 A3.out).mono ?_); (case side1 => exact cm_ HR0.out); (case side2 => exact HC0.out); rintro e w6 ⟨rfl, hb⟩; refine ⟨_, rfl, ?_⟩; replace HB := bs_ hb; (try clear hb)))
   go_ret
   exact ⟨by first | rfl | (simp [errW_none, errW_some] <;> rfl) | (simp [*, errW_none, errW_some] <;> rfl), bq_⟩
  ·rw [if_neg c5] at H
   have c5b0 : decide (0 ≤ a1) = false := decide_eq_false c5
   clear c5
   obtain rfl := Option.some.inj H
   go_enter Try.func41, Try.ntmps41
   go_wp2_with (first | ((with_reducible refine gl_ 47 rfl ?_); refine goesM_ (some 6) Try.func47 #[.slice A0 l0.length c0] ?_; (with_reducible refine (spec_GoodProgram.calls k _ _ l0 true _ ?side1 ?side2 A3.out).mono ?_); (case side1 => exact cm_ HR0.out); (case side2 => exact HC0.out); rintro e w7 ⟨rfl, hb⟩; refine ⟨_, rfl, ?_⟩; replace HB := bs_ hb; (try clear hb)))
   go_ret
   exact ⟨by first | rfl | (simp [errW_none, errW_some] <;> rfl) | (simp [*, errW_none, errW_some] <;> rfl), bq_⟩
 ·replace c4 := Bool.eq_false_iff.mpr c4
  subst c4
  have H1 : (some false) = some r := by rw [if_neg (show ¬ (false = true) by decide)] at H; exact H
  clear H
  have H := H1
  clear H1
  obtain rfl := Option.some.inj H
  go_enter Try.func41, Try.ntmps41
  go_wp2_with (first | ((with_reducible refine gl_ 47 rfl ?_); refine goesM_ (some 6) Try.func47 #[.slice A0 l0.length c0] ?_; (with_reducible refine (spec_GoodProgram.calls k _ _ l0 false _ ?side1 ?side2 A3.out).mono ?_); (case side1 => exact cm_ HR0.out); (case side2 => exact HC0.out); rintro e w8 ⟨rfl, hb⟩; refine ⟨_, rfl, ?_⟩; replace HB := bs_ hb; (try clear hb)))
  go_ret
  exact ⟨by first | rfl | (simp [errW_none, errW_some] <;> rfl) | (simp [*, errW_none, errW_some] <;> rfl), bq_⟩
def spec_l11Ahead.l0 : Nat → List (S51) → Int → List Int → List Int → Int → Int → Option (List Int)
 | 0, _, _, _, _, _, _ => none
 | k + 1, x0, x1, x5, x9, x10, x11 => if x11 < x10 then (if 0 ≤ x11 then (if x11 < (x9.length : Int) then ((spec_l2Nexts.f x0 (rd x9 x11)).bind fun t239 => ((spec_l1Has.f k t239 x1).bind fun t242 => (if t242 = true then (if x5.length < 17592186044416 then (spec_l11Ahead.l0 k x0 x1 (x5 ++ [rd x9 x11]) x9 x10 (wrap64 (x11 + 1))) else (none)) else (spec_l11Ahead.l0 k x0 x1 x5 x9 x10 (wrap64 (x11 + 1)))))) else (none)) else (none)) else (some x5)
def spec_l11Ahead.f (k : Nat) (l0 : List (S51)) (a1 : Int) : Option (List Int) := (spec_l11Reached.f k l0 0).bind fun t235 => (spec_l11Ahead.l0 k l0 a1 ([] : List Int) t235 (t235.length : Int) 0)
set_option maxHeartbeats 8000000 in
set_option maxRecDepth 100000 in
theorem spec_l11Ahead.calls (k : Nat) (A0 : Option Addr) (c0 : Nat) (l0 : List (S51)) (a1 : Int) (r : List Int) (w : World) (hr0 : Kd.C k51 w A0 l0.length l0) (hc0 : l0.length ≤ c0) (h : spec_l11Ahead.f k l0 a1 = some r) :
  Calls Try.prog 58 #[.slice A0 l0.length c0, .int .i64 a1] w fun e w' => ∃ v0_ : Value, e = .returned (v0_) ∧ Kd.R (Kd.int .i64) 3 w' w.heap.size (fun _ => True) v0_ r ∧ Below w.heap.size w w' := by
 have HR0 := am_ hr0
 have HC0 := am_ hc0
 clear hr0 hc0
 have HB := am_ (Below.refl w.heap.size w)
 have H : ((spec_l11Reached.f k l0 0).bind fun t235 => (spec_l11Ahead.l0 k l0 a1 ([] : List Int) t235 (t235.length : Int) 0)) = some r := h
 clear h
 replace H := Option.bind_eq_some_iff.mp H
 obtain ⟨t235, A30, H⟩ := H
 replace H : (spec_l11Ahead.l0 k l0 a1 ([] : List Int) t235 (t235.length : Int) 0) = some r := H
 have A3 := am_ A30
 clear A30
 have H' := am_ H
 clear H
 go_enter Try.func58, Try.ntmps58
 go_wp2_with (first | ((with_reducible refine gl_ 48 rfl ?_); refine goesM_ (some 9) Try.func48 #[.slice A0 l0.length c0, .int .i64 0] ?_; (with_reducible refine (spec_l11Reached.calls k _ _ l0 0 t235 _ ?side1 ?side2 A3.out).mono ?_); (case side1 => exact cm_ HR0.out); (case side2 => exact HC0.out); rintro e w4 ⟨v236, rfl, ho0, hb⟩; refine ⟨_, rfl, ?_⟩; have HO237 := am_ (Kd.R_lower ho0 (below_size (bq_))); replace HB := bs_ hb; (try clear hb); (try clear ho0); obtain ⟨Ao5, co5, eo5⟩ := Kd.R_slice HO237.out; subst eo5))
 go_loopg [5, 11] k (fun kq v5 v11 w' => ∃ (x5_1 : List Int) (x11_1 : Int), v11 = .int .i64 x11_1 ∧ Aside0 (spec_l11Ahead.l0 kq l0 a1 x5_1 t235 (t235.length : Int) x11_1 = some r) ∧ Aside0 (kq ≤ k) ∧ Aside0 (Kd.R (Kd.int .i64) 3 w' w.heap.size (fun k_ => some k_ ≠ ((.slice Ao5 t235.length co5) : Value).ownBlock) v5 x5_1) ∧ Aside0 (Kd.R (Kd.int .i64) 3 w' w.heap.size (fun k_ => some k_ ≠ (v5 : Value).ownBlock) (.slice Ao5 t235.length co5) t235) ∧ Aside0 (Below w.heap.size w w'))
 case atStart => exact ⟨(([] : List Int)), (0), y14_, H', ⟨Nat.le_refl _⟩, ⟨by first | exact Kd.R_nil _ _ _ _ _ | exact Kd.N_nil _ _ _ _ _ | exact Kd.V_nil _ _ _ _ _ | exact Kd.Q_nil _ _ _ _ _ | exact Kd.S_nil _ _ _ _ _⟩, ⟨rq_ (Kd.R_mono HO237.out (fun _ hk => (by simp [Value.ownBlock])))⟩, ⟨bq_⟩⟩
 case round =>
  clear H'
  try clear p2
  try clear c4
  try clear c5
  obtain ⟨x5_1, x11_1, rfl, HA, HK1, HO_5, HO_9, HB⟩ := hrel
  cases gk with
  | zero => exact absurd HA.out (by simp [spec_l11Ahead.l0])
  | succ k1 =>
   have H := HA.out
   clear HA
   simp only [spec_l11Ahead.l0] at H
   by_cases c6 : x11_1 < (t235.length : Int)
   ·rw [if_pos c6] at H
    have c6b0 : decide (x11_1 < (t235.length : Int)) = true := decide_eq_true c6
    clear c6
    by_cases c7 : 0 ≤ x11_1
    ·rw [if_pos c7] at H
     have c7b0 : decide (0 ≤ x11_1) = true := decide_eq_true c7
     clear c7
     by_cases c8 : x11_1 < (t235.length : Int)
     ·rw [if_pos c8] at H
      have c8b0 : decide (x11_1 < (t235.length : Int)) = true := decide_eq_true c8
      clear c8
      replace H := Option.bind_eq_some_iff.mp H
      obtain ⟨t239, A90, H⟩ := H
      replace H : ((spec_l1Has.f k1 t239 a1).bind fun t242 => (if t242 = true then (if x5_1.length < 17592186044416 then (spec_l11Ahead.l0 k1 l0 a1 (x5_1 ++ [rd t235 x11_1]) t235 (t235.length : Int) (wrap64 (x11_1 + 1))) else (none)) else (spec_l11Ahead.l0 k1 l0 a1 x5_1 t235 (t235.length : Int) (wrap64 (x11_1 + 1))))) = some r := H
      have A9 := am_ A90
      clear A90
      replace H := Option.bind_eq_some_iff.mp H
      obtain ⟨t242, A100, H⟩ := H
      replace H : (if t242 = true then (if x5_1.length < 17592186044416 then (spec_l11Ahead.l0 k1 l0 a1 (x5_1 ++ [rd t235 x11_1]) t235 (t235.length : Int) (wrap64 (x11_1 + 1))) else (none)) else (spec_l11Ahead.l0 k1 l0 a1 x5_1 t235 (t235.length : Int) (wrap64 (x11_1 + 1)))) = some r := H
      have A10 := am_ A100
      clear A100
      by_cases c11 : t242 = true
      ·subst c11
       have H1 : (if x5_1.length < 17592186044416 then (spec_l11Ahead.l0 k1 l0 a1 (x5_1 ++ [rd t235 x11_1]) t235 (t235.length : Int) (wrap64 (x11_1 + 1))) else (none)) = some r := by rw [if_pos rfl] at H; exact H
       clear H
       have H := H1
       clear H1
       by_cases c12 : x5_1.length < 17592186044416
       ·rw [if_pos c12] at H
        have LMc12 := am_ c12
        clear c12
        obtain ⟨y243, hy243⟩ : ∃ y_ : List Int, y_ = (x5_1 ++ [rd t235 x11_1]) := ⟨_, rfl⟩
        replace H : (spec_l11Ahead.l0 k1 l0 a1 y243 t235 (t235.length : Int) (wrap64 (x11_1 + 1))) = some r := by first | (rw [hy243]; with_reducible exact H) | (have H2_ := (Option.bind_some _ _).symm.trans H; rw [hy243]; with_reducible exact H2_) | (have H2_ := (Option.bind_some _ _).symm.trans H; with_reducible exact H2_) | with_reducible exact H | (rw [hy243]; exact H) | exact H
        have Ny243 := am_ hy243
        clear hy243
        have H' := am_ H
        clear H
        have p238 : 0 ≤ (x11_1 : Int) := od_
        have q238 : x11_1 < (t235.length : Int) := od_
        obtain ⟨ad238, e238, hx238_0⟩ := Kd.at_int (Kd.R_reads' HO_9.out).2.2 x11_1 p238 q238
        cases e238
        replace p238 := eq_true p238
        replace q238 := eq_true q238
        go_wp2_with (first | ((with_reducible refine gl_ 42 rfl ?_); refine goesM_ (some 17) Try.func42 #[.slice A0 l0.length c0, .int .i64 (rd t235 x11_1)] ?_; (with_reducible refine (spec_l2Nexts.calls _ _ l0 (rd t235 x11_1) t239 _ ?side1 ?side2 A9.out).mono ?_); (case side1 => exact cm_ (Kd.C_below HR0.out HB.out)); (case side2 => exact HC0.out); rintro e w13 ⟨v240, rfl, ho0, hb⟩; refine ⟨_, rfl, ?_⟩; have HO241 := am_ (Kd.R_lower (Kd.R_new' (Kd.R_new' ho0 (Kd.R_lt (rq_ HO_5.out))) (Kd.R_lt (rq_ HO_9.out))) (below_size (bq_))); replace HO_5 := am_ (Kd.R_elder' (rq_ HO_5.out) (Kd.R_base ho0) hb); replace HO_9 := am_ (Kd.R_elder' (rq_ HO_9.out) (Kd.R_base ho0) hb); replace HB := bs_ hb; (try clear hb); (try clear hk); (try clear ho0); obtain ⟨Ao14, co14, eo14⟩ := Kd.R_slice HO241.out; subst eo14) | ((with_reducible refine gl_ 55 rfl ?_); refine goesM_ (some 19) Try.func55 #[.slice Ao14 t239.length co14, .int .i64 a1] ?_; (with_reducible refine (spec_l1Has.calls k1 _ _ t239 a1 true _ ?side1 ?side2 A10.out).mono ?_); (case side1 => exact cm_ (Kd.R_reads' HO241.out).2.2); (case side2 => exact (Kd.R_reads' HO241.out).2.1); rintro e w' ⟨rfl, ⟨nd, rfl⟩⟩; refine ⟨_, rfl, ?_⟩) | ((with_reducible refine gate_builtin (b := .append) (xs := #[.tmp 20, .tmp 22]) rfl ?_); at_builtin; refine Kd.R_append (Kd.int .i64) (w0 := w) w.heap.size rfl (.tmp 20) (.tmp 22) 30 3 (.int .i64 0) 8 rfl Try.underlying30 info3 rfl (by decide) (by omega) u5 x5_1 (rd t235 x11_1) [.int .i64 (rd t235 x11_1)] (fun k_ => some k_ ≠ (.slice (some ad238) t235.length co5 : Value).ownBlock ∧ some k_ ≠ (.slice Ao14 t239.length co14 : Value).ownBlock) (fun _ => False) rfl rfl ?aP (fun _ hk => hk.elim) ?aF ?aO ?aB ?aS ?aL ?_; (case aP => exact rfl); (case aB => exact (bq_)); (case aF => exact (fun k_ hk => ⟨Kd.fresh' (Kd.R_lt (rq_ HO_9.out)) k_ hk, Kd.fresh' (Kd.R_lt (rq_ HO241.out)) k_ hk⟩)); (case aO => exact (rq_ HO_5.out)); (case aS => exact (below_size (bq_))); (case aL => have := LMc12.out; omega); intro v244 w15 ho hb hg hat; rw [← Ny243.out] at ho; replace HO_9 := am_ (Kd.R_after (ok := (fun k_ => some k_ ≠ (.slice Ao14 t239.length co14 : Value).ownBlock)) (rq_ (Kd.R_mono HO_9.out (fun _ hk => ⟨hk.2, hk.1⟩))) hg hat); replace HO241 := am_ (Kd.R_after (ok := (fun k_ => some k_ ≠ (.slice (some ad238) t235.length co5 : Value).ownBlock)) (rq_ (Kd.R_mono HO241.out (fun _ hk => ⟨hk.2, hk.1.2⟩))) hg hat); replace HB := am_ (hb); have HO245 := am_ (ho); clear HO_5; clear ho hb hg hat))
        go_roundg k1
        case measure => have := HK1.out; omega
        case rel => exact ⟨(y243), (wrap64 (x11_1 + 1)), y14_, H', ⟨by have := HK1.out; omega⟩, ⟨rq_ (Kd.R_mono HO245.out (fun _ hk => hk.1))⟩, ⟨rq_ (Kd.R_mono HO_9.out (fun _ hk => hk.2))⟩, ⟨bq_⟩⟩
       ·rw [if_neg c12] at H
        exact absurd H (by simp)
      ·replace c11 := Bool.eq_false_iff.mpr c11
       subst c11
       have H1 : (spec_l11Ahead.l0 k1 l0 a1 x5_1 t235 (t235.length : Int) (wrap64 (x11_1 + 1))) = some r := by rw [if_neg (show ¬ (false = true) by decide)] at H; exact H
       clear H
       have H := H1
       clear H1
       have H' := am_ H
       clear H
       have p238 : 0 ≤ (x11_1 : Int) := od_
       have q238 : x11_1 < (t235.length : Int) := od_
       obtain ⟨ad238, e238, hx238_0⟩ := Kd.at_int (Kd.R_reads' HO_9.out).2.2 x11_1 p238 q238
       cases e238
       replace p238 := eq_true p238
       replace q238 := eq_true q238
       go_wp2_with (first | ((with_reducible refine gl_ 42 rfl ?_); refine goesM_ (some 17) Try.func42 #[.slice A0 l0.length c0, .int .i64 (rd t235 x11_1)] ?_; (with_reducible refine (spec_l2Nexts.calls _ _ l0 (rd t235 x11_1) t239 _ ?side1 ?side2 A9.out).mono ?_); (case side1 => exact cm_ (Kd.C_below HR0.out HB.out)); (case side2 => exact HC0.out); rintro e w16 ⟨v240, rfl, ho0, hb⟩; refine ⟨_, rfl, ?_⟩; have HO241 := am_ (Kd.R_lower (Kd.R_new' (Kd.R_new' ho0 (Kd.R_lt (rq_ HO_5.out))) (Kd.R_lt (rq_ HO_9.out))) (below_size (bq_))); replace HO_5 := am_ (Kd.R_elder' (rq_ HO_5.out) (Kd.R_base ho0) hb); replace HO_9 := am_ (Kd.R_elder' (rq_ HO_9.out) (Kd.R_base ho0) hb); replace HB := bs_ hb; (try clear hb); (try clear ho0); obtain ⟨Ao17, co17, eo17⟩ := Kd.R_slice HO241.out; subst eo17) | ((with_reducible refine gl_ 55 rfl ?_); refine goesM_ (some 19) Try.func55 #[.slice Ao17 t239.length co17, .int .i64 a1] ?_; (with_reducible refine (spec_l1Has.calls k1 _ _ t239 a1 false _ ?side1 ?side2 A10.out).mono ?_); (case side1 => exact cm_ (Kd.R_reads' HO241.out).2.2); (case side2 => exact (Kd.R_reads' HO241.out).2.1); rintro e w' ⟨rfl, ⟨nd, rfl⟩⟩; refine ⟨_, rfl, ?_⟩))
       go_roundg k1
       case measure => have := HK1.out; omega
       case rel => exact ⟨(x5_1), (wrap64 (x11_1 + 1)), y14_, H', ⟨by have := HK1.out; omega⟩, ⟨rq_ (Kd.R_mono HO_5.out (fun _ hk => hk.1))⟩, ⟨rq_ (Kd.R_mono HO_9.out (fun _ hk => hk.1))⟩, ⟨bq_⟩⟩
     ·rw [if_neg c8] at H
      exact absurd H (by simp)
    ·rw [if_neg c7] at H
     exact absurd H (by simp)
   ·rw [if_neg c6] at H
    have c6b0 : decide (x11_1 < (t235.length : Int)) = false := decide_eq_false c6
    clear c6
    obtain rfl := Option.some.inj H
    go_wp2
    go_ret
    exact ⟨_, by first | rfl | (simp [errW_none, errW_some] <;> rfl) | (simp [*, errW_none, errW_some] <;> rfl), rq_ (Kd.R_mono HO_5.out (fun _ hk => trivial)), bq_⟩
end Go.Proofs.Ytcmhkgpalfljbaa.PPA
