-- Made by myprint.py (this session's program, over the kit's print) for this claim. Lean checks it.
import Derived.Test.YtcmhkgpalfljbaaPIEx0
import Derived.Test.YtcmhkgpalfljbaaPIEx7
namespace Go.Proofs.Ytcmhkgpalfljbaa.PIE
open Go.RowKit Go.Proofs.YtcmhkgpalfljbaaW.PrintWords Go.Proofs.YtcmhkgpalfljbaaW.PrintLast Go.Proofs.YtcmhkgpalfljbaaW.PrintMore
attribute [local go_sem] max2_int min2_int max_two min_two max_three min_three max_four min_four   -- for this text's walks alone
set_option linter.unusedVariables false
set_option linter.unusedSimpArgs false

/-! ### impl_reachable: function 50 -/
mutual
def impl_reachable.l0 : Nat → List (S51) → List Bool → Int → Int → Option (List Bool)
  | 0, _, _, _, _ => none
  | k + 1, x0, x5, x16, x17 => if x17 < x16 then (if 0 ≤ x17 then (if x17 < (x5.length : Int) then (if rdOf false x5 x17 = true then ((impl_nexts.f x0 x17).bind fun t263 => (impl_reachable.l1 k x0 x5 x16 x17 t263 (t263.length : Int) 0)) else (impl_reachable.l0 k x0 x5 x16 (wrap64 (x17 + 1)))) else (none)) else (none)) else (some x5)
def impl_reachable.l1 : Nat → List (S51) → List Bool → Int → Int → List Int → Int → Int → Option (List Bool)
  | 0, _, _, _, _, _, _, _ => none
  | k + 1, x0, x5, x16, x17, x26, x27, x28 => if x28 < x27 then (if 0 ≤ x28 then (if x28 < (x26.length : Int) then (if 0 ≤ (rd x26 x28) then (if (rd x26 x28) < (x5.length : Int) then (impl_reachable.l1 k x0 (x5.set ((rd x26 x28) : Int).toNat true) x16 x17 x26 x27 (wrap64 (x28 + 1))) else (none)) else (none)) else (none)) else (none)) else (impl_reachable.l0 k x0 x5 x16 (wrap64 (x17 + 1)))
end
def impl_reachable.f (k : Nat) (l0 : List (S51)) (a1 : Int) : Option (List Bool) := if 0 ≤ (l0.length : Int) then (if ((l0.length : Int) : Int).toNat ≤ 281474976710656 then ((some (List.replicate ((l0.length : Int) : Int).toNat false : List Bool)).bind fun y258 => (if 0 ≤ a1 then (if a1 < (y258.length : Int) then (impl_reachable.l0 k l0 (y258.set (a1 : Int).toNat true) (l0.length : Int) 0) else (none)) else (none))) else (none)) else (none)
theorem impl_reachable.mono_l : ∀ k, (∀ y0 y1 y2 y3, LeO (impl_reachable.l0 k y0 y1 y2 y3) (impl_reachable.l0 (k + 1) y0 y1 y2 y3)) ∧ (∀ y0 y1 y2 y3 y4 y5 y6, LeO (impl_reachable.l1 k y0 y1 y2 y3 y4 y5 y6) (impl_reachable.l1 (k + 1) y0 y1 y2 y3 y4 y5 y6))
  | 0 => ⟨fun _ _ _ _ r h => by simp [impl_reachable.l0] at h, fun _ _ _ _ _ _ _ r h => by simp [impl_reachable.l1] at h⟩
  | k + 1 => by
    obtain ⟨ih0, ih1⟩ := impl_reachable.mono_l k
    refine ⟨?_, ?_⟩
    · intro y0 y1 y2 y3
      unfold impl_reachable.l0
      repeat' first
      | (with_reducible exact ih0 _ _ _ _)
      | (with_reducible exact ih1 _ _ _ _ _ _ _)
      | (with_reducible exact LeO.refl _)
      | (with_reducible exact LeO.none _)
      | (with_reducible refine LeO.ite ?_ ?_)
      | (with_reducible refine LeO.bind ?_ (fun _ => ?_))
      | exact ih0 _ _ _ _
      | exact ih1 _ _ _ _ _ _ _
      | exact LeO.none _
      | refine LeO.ite ?_ ?_
      | refine LeO.bind ?_ (fun _ => ?_)
    · intro y0 y1 y2 y3 y4 y5 y6
      unfold impl_reachable.l1
      repeat' first
      | (with_reducible exact ih0 _ _ _ _)
      | (with_reducible exact ih1 _ _ _ _ _ _ _)
      | (with_reducible exact LeO.refl _)
      | (with_reducible exact LeO.none _)
      | (with_reducible refine LeO.ite ?_ ?_)
      | (with_reducible refine LeO.bind ?_ (fun _ => ?_))
      | exact ih0 _ _ _ _
      | exact ih1 _ _ _ _ _ _ _
      | exact LeO.none _
      | refine LeO.ite ?_ ?_
      | refine LeO.bind ?_ (fun _ => ?_)
theorem impl_reachable.mono : ∀ a0 a1 k, LeO (impl_reachable.f k a0 a1) (impl_reachable.f (k + 1) a0 a1) := by
  intro a0 a1 k
  obtain ⟨ih0, ih1⟩ := impl_reachable.mono_l k
  unfold impl_reachable.f
  repeat' first
      | (with_reducible exact ih0 _ _ _ _)
      | (with_reducible exact ih1 _ _ _ _ _ _ _)
      | (with_reducible exact LeO.refl _)
      | (with_reducible exact LeO.none _)
      | (with_reducible refine LeO.ite ?_ ?_)
      | (with_reducible refine LeO.bind ?_ (fun _ => ?_))
      | exact ih0 _ _ _ _
      | exact ih1 _ _ _ _ _ _ _
      | exact LeO.none _
      | refine LeO.ite ?_ ?_
      | refine LeO.bind ?_ (fun _ => ?_)
set_option maxHeartbeats 8000000 in
set_option maxRecDepth 100000 in
theorem impl_reachable.calls (k : Nat) (A0 : Option Addr) (c0 : Nat) (l0 : List (S51)) (a1 : Int) (r : List Bool) (w : World) (hr0 : Kd.C k51 w A0 l0.length l0) (hc0 : l0.length ≤ c0) (h : impl_reachable.f k l0 a1 = some r) :
    Calls Try.prog 50 #[.slice A0 l0.length c0, .int .i64 a1] w fun e w' => ∃ v0_ : Value, e = .returned (v0_) ∧ Kd.R Kd.bool 4 w' w.heap.size (fun _ => True) v0_ r ∧ Below w.heap.size w w' := by
  have HR0 := Aside0.mk hr0
  have HC0 := Aside0.mk hc0
  clear hr0 hc0
  have HB := Aside0.mk (Below.refl w.heap.size w)
  have H : (if 0 ≤ (l0.length : Int) then (if ((l0.length : Int) : Int).toNat ≤ 281474976710656 then ((some (List.replicate ((l0.length : Int) : Int).toNat false : List Bool)).bind fun y258 => (if 0 ≤ a1 then (if a1 < (y258.length : Int) then (impl_reachable.l0 k l0 (y258.set (a1 : Int).toNat true) (l0.length : Int) 0) else (none)) else (none))) else (none)) else (none)) = some r := h
  clear h
  by_cases c3 : 0 ≤ (l0.length : Int)
  · rw [if_pos c3] at H
    have c3b0 := eq_true c3
    have c3b1 : decide (0 ≤ (l0.length : Int)) = true := decide_eq_true c3
    clear c3
    by_cases c4 : ((l0.length : Int) : Int).toNat ≤ 281474976710656
    · rw [if_pos c4] at H
      have c4b0 := eq_true c4
      have c4b1 : decide (((l0.length : Int) : Int).toNat ≤ 281474976710656) = true := decide_eq_true c4
      clear c4
      obtain ⟨y258, hy258⟩ : ∃ y_ : List Bool, y_ = (List.replicate ((l0.length : Int) : Int).toNat false) := ⟨_, rfl⟩
      replace H : (if 0 ≤ a1 then (if a1 < (y258.length : Int) then (impl_reachable.l0 k l0 (y258.set (a1 : Int).toNat true) (l0.length : Int) 0) else (none)) else (none)) = some r := by first | (rw [hy258]; with_reducible exact H) | (have H2_ := (Option.bind_some _ _).symm.trans H; rw [hy258]; with_reducible exact H2_) | (have H2_ := (Option.bind_some _ _).symm.trans H; with_reducible exact H2_) | with_reducible exact H | (rw [hy258]; exact H) | exact H
      have Ny258 := Aside0.mk hy258
      clear hy258
      by_cases c5 : 0 ≤ a1
      · rw [if_pos c5] at H
        have c5b0 : decide (0 ≤ a1) = true := decide_eq_true c5
        clear c5
        by_cases c6 : a1 < (y258.length : Int)
        · rw [if_pos c6] at H
          have c6b0 : decide (a1 < (y258.length : Int)) = true := decide_eq_true c6
          clear c6
          obtain ⟨y261, hy261⟩ : ∃ y_ : List Bool, y_ = (y258.set (a1 : Int).toNat true) := ⟨_, rfl⟩
          replace H : (impl_reachable.l0 k l0 y261 (l0.length : Int) 0) = some r := by first | (rw [hy261]; with_reducible exact H) | (have H2_ := (Option.bind_some _ _).symm.trans H; rw [hy261]; with_reducible exact H2_) | (have H2_ := (Option.bind_some _ _).symm.trans H; with_reducible exact H2_) | with_reducible exact H | (rw [hy261]; exact H) | exact H
          have Ny261 := Aside0.mk hy261
          clear hy261
          have H' := Aside0.mk H
          clear H
          go_enter Try.func50, Try.ntmps50
          go_wp2_with (first | ((with_reducible refine gate_dst (N := 11) rfl ?_); refine Kd.R_make Kd.bool _ 4 rfl (N := 11) rfl 57 _ _ rfl (l0.length : Int) rfl rfl Try.underlying57 (.bool false) 1 info4 rfl (by decide) (by omega) false (ok := fun _ => True) (okp := fun _ => True) rfl (fun _ hk => hk) trivial (of_decide_eq_true (by first | (with_reducible assumption) | assumption)) (Nat.le_trans (Nat.mul_le_mul_right _ (of_decide_eq_true (by first | (with_reducible assumption) | assumption) : (l0.length : Int).toNat ≤ 281474976710656)) (by omega)) (Below.refl _ _) (Nat.le_refl _) ?_; intro v259 w8 ho9 hb hg_ hnew_; clear hg_ hnew_; (first | rw [← Ny258.out] at ho9 | (simp only [Int.reduceToNat] at ho9; rw [← Ny258.out] at ho9)); have n0_ := Aside0.mk (Kd.R_lower ho9 (below_size (by repeat (first | (with_reducible first | exact HB.out | apply below_alloc | apply pw_below_drewN | apply below_drew1) | exact HB.out)))); have n1_ := Aside0.mk (below_step (by repeat (first | (with_reducible first | exact HB.out | apply below_alloc | apply pw_below_drewN | apply below_drew1) | exact HB.out)) hb); clear HB; have HO260 := n0_; have HB := n1_; clear n0_ n1_; clear hb ho9; have p7 : 0 ≤ (a1 : Int) := of_decide_eq_true (by first | (with_reducible assumption) | assumption); have q7 : (a1 : Int) < ((y258.length : Int) : Int) := of_decide_eq_true (by first | (with_reducible assumption) | assumption); obtain ⟨go7, co7, eo7, gb7, gl7, cl7, HG7⟩ := Kd.R_form HO260.out (by omega); (first | cases eo7 | (injection eo7 with ea_ en_ ec_; (first | subst ea_ | (injection ea_ with ea_; subst ea_)); subst ec_; clear en_)); have GB7 := Aside0.mk gb7; have GG7 := Aside0.mk HG7; clear gb7 gl7 HG7; obtain ⟨hx7_0, hf7_0⟩ := Kd.R_celln false HO260.out (a1 : Int) p7 q7; replace p7 := eq_true p7; replace q7 := eq_true q7; obtain ⟨hy10_, hz10_⟩ := Kd.R_celln false HO260.out (a1 : Int) (of_decide_eq_true (by first | (with_reducible assumption) | assumption)) (of_decide_eq_true (by first | (with_reducible assumption) | assumption)); have HP10 := Kd.R_putg HO260.out (a1 : Int) true) | ((with_reducible refine gate_store (t := 4) (p := 14) rfl ?_); refine store_event (t := 4) (p := 14) (v := ?vo_w11) (w1 := (w8.setCell ⟨go7, (a1 : Int).toNat, none⟩ (.bool true))) ?hg ?ho ?hn ?hr ?_; (case ho => rfl); (case hg => rfl); (case hn => rfl); (case hr => first | (go_simp; done) | (go_simp; rfl)); intro w11 hw; have hg : w8.grownBy w11 (some go7) := (by rw [hw]; exact HP10.2); have hp_ : Kd.R Kd.bool 4 w11 w.heap.size (fun _ => True) (.slice (some ⟨go7, 0, none⟩) y258.length co7) y261 := (by rw [hw, Ny261.out]; exact HP10.1); clear HP10; have n0_ := Aside0.mk (hp_); have n1_ := Aside0.mk ((by rw [hw]; exact below_set (HB.out) GB7.out : Below w.heap.size w w11)); clear HO260; clear HB; have HO260 := n0_; have HB := n1_; clear n0_ n1_; clear hg hw hp_))
          go_loopg [17] k (fun kq v17 w' => ∃ (x5_1 : List Bool) (x17_1 : Int), v17 = .int .i64 x17_1 ∧ Aside0 (impl_reachable.l0 kq l0 x5_1 (l0.length : Int) x17_1 = some r) ∧ Aside0 (kq ≤ k) ∧ Aside0 (Kd.R Kd.bool 4 w' w.heap.size (fun _ => True) (.slice (some ⟨go7, 0, none⟩) y258.length co7) x5_1) ∧ Aside0 (Below w.heap.size w w'))
          case atStart => exact ⟨(y261), (0), (by first | rfl | (simp; done) | (simp [*]; done)), H', ⟨Nat.le_refl _⟩, ⟨by (with_reducible repeat (first | apply Kd.R_alloc | apply Kd.R_drewN | apply Kd.R_drew)); exact HO260.out⟩, ⟨by repeat (first | (with_reducible first | exact HB.out | apply below_alloc | apply pw_below_drewN | apply below_drew1) | exact HB.out)⟩⟩
          case round =>
            clear H'
            try clear p2
            try clear c3
            try clear c3b0
            try clear c3b1
            try clear c4
            try clear c4b0
            try clear c4b1
            try clear c5
            try clear c5b0
            try clear c6
            try clear c6b0
            try clear p7
            try clear q7
            try clear hx7
            try clear hf7
            try clear hx7_0
            try clear p7
            try clear q7
            obtain ⟨x5_1, x17_1, rfl, HA, HK1, HO_5, HB⟩ := hrel
            have hl5_1 := (Kd.R_reads' HO_5.out).1
            rw [hl5_1] at HO_5
            (try simp only [hl5_1])
            cases gk with
            | zero => exact absurd HA.out (by simp [impl_reachable.l0])
            | succ k1 =>
              have H := HA.out
              clear HA
              simp only [impl_reachable.l0] at H
              by_cases c12 : x17_1 < (l0.length : Int)
              · rw [if_pos c12] at H
                have c12b0 : decide (x17_1 < (l0.length : Int)) = true := decide_eq_true c12
                (try (have c12hhl5_1 := c12b0; simp only [hl5_1] at c12hhl5_1))
                clear c12
                by_cases c13 : 0 ≤ x17_1
                · rw [if_pos c13] at H
                  have c13b0 : decide (0 ≤ x17_1) = true := decide_eq_true c13
                  clear c13
                  by_cases c14 : x17_1 < (x5_1.length : Int)
                  · rw [if_pos c14] at H
                    have c14b0 : decide (x17_1 < (x5_1.length : Int)) = true := decide_eq_true c14
                    (try (have c14hhl5_1 := c14b0; simp only [hl5_1] at c14hhl5_1))
                    clear c14
                    obtain ⟨bq15, hbq15⟩ : ∃ b_ : Bool, b_ = (rdOf false x5_1 x17_1) := ⟨_, rfl⟩
                    replace H : (if bq15 = true then ((impl_nexts.f l0 x17_1).bind fun t263 => (impl_reachable.l1 k1 l0 x5_1 (l0.length : Int) x17_1 t263 (t263.length : Int) 0)) else (impl_reachable.l0 k1 l0 x5_1 (l0.length : Int) (wrap64 (x17_1 + 1)))) = some r := by rw [← hbq15] at H; exact H
                    have Nbq15 := Aside0.mk hbq15
                    clear hbq15
                    by_cases c16 : bq15 = true
                    · subst c16
                      have H1 : ((impl_nexts.f l0 x17_1).bind fun t263 => (impl_reachable.l1 k1 l0 x5_1 (l0.length : Int) x17_1 t263 (t263.length : Int) 0)) = some r := by rw [if_pos rfl] at H; exact H
                      clear H
                      have H := H1
                      clear H1
                      replace H := Option.bind_eq_some_iff.mp H
                      obtain ⟨t263, A170, H⟩ := H
                      replace H : (impl_reachable.l1 k1 l0 x5_1 (l0.length : Int) x17_1 t263 (t263.length : Int) 0) = some r := H
                      have A17 := Aside0.mk A170
                      clear A170
                      have H' := Aside0.mk H
                      clear H
                      have p262 : 0 ≤ (x17_1 : Int) := of_decide_eq_true (by first | (with_reducible assumption) | assumption)
                      have q262 : x17_1 < (x5_1.length : Int) := of_decide_eq_true (by first | (with_reducible assumption) | assumption)
                      obtain ⟨ad262, e262, hx262_0⟩ := Kd.at_bool (Kd.R_reads' HO_5.out).2.2 x17_1 p262 q262
                      (try rw [← Nbq15.out] at hx262_0)
                      obtain rfl : (⟨go7, 0, none⟩ : Addr) = ad262 := (by injection e262)
                      (first | simp only [add_plain] at hx262_0 | simp only [add_at] at hx262_0 | simp only [Addr.add, Nat.zero_add] at hx262_0 | skip)
                      replace p262 := eq_true p262
                      replace q262 := eq_true q262
                      go_wp2_with (first | ((with_reducible refine gate_callee (f := 61) rfl ?_); refine goesL_ (some 26) rfl rfl Try.func61 (by kernel_rfl) rfl #[.slice A0 l0.length c0, .int .i64 x17_1] rfl (by (try simp only [List.map_toArray, List.map_cons, List.map_nil]); first | done | rfl | (simp only [List.length_drop, List.length_take]; rfl)) ?_; (with_reducible refine (impl_nexts.calls _ _ l0 x17_1 t263 _ ?side1 ?side2 A17.out).mono ?_); (case side1 => repeat (first | exact (Kd.C_below HR0.out HB.out) | (with_reducible refine Kd.C_alloc ?_ _) | (with_reducible refine Kd.C_drewN ?_ _) | (with_reducible refine Kd.C_drew ?_))); (case side2 => exact HC0.out); rintro e w18 ⟨v264, rfl, ho0, hb⟩; refine ⟨_, rfl, ?_⟩; have n0_ := Aside0.mk (Kd.R_below (by (with_reducible repeat (first | apply Kd.R_alloc | apply Kd.R_drewN | apply Kd.R_drew)); exact HO_5.out) hb); have n1_ := Aside0.mk (Kd.R_lower ho0 (below_size (by repeat (first | (with_reducible first | exact HB.out | apply below_alloc | apply pw_below_drewN | apply below_drew1) | exact HB.out)))); have n2_ := Aside0.mk (below_step (by repeat (first | (with_reducible first | exact HB.out | apply below_alloc | apply pw_below_drewN | apply below_drew1) | exact HB.out)) hb); clear HO_5; clear HB; have HO_5 := n0_; have HO265 := n1_; have HB := n2_; clear n0_ n1_ n2_; (try clear hb); (try clear hb2); (try clear hk); (try clear hi); (try clear ho0); obtain ⟨Ao19, co19, eo19⟩ := Kd.R_slice HO265.out; subst eo19))
                      go_loopg [28] k1 (fun kq v28 w' => ∃ (x5_2 : List Bool) (x28_2 : Int), v28 = .int .i64 x28_2 ∧ Aside0 (impl_reachable.l1 kq l0 x5_2 (l0.length : Int) x17_1 t263 (t263.length : Int) x28_2 = some r) ∧ Aside0 (kq ≤ k1) ∧ Aside0 (Kd.R Kd.bool 4 w' w.heap.size (fun _ => True) (.slice (some ⟨go7, 0, none⟩) x5_1.length co7) x5_2) ∧ Aside0 (Kd.R (Kd.int .i64) 3 w' w.heap.size (fun _ => True) (.slice Ao19 t263.length co19) t263) ∧ Aside0 (Below w.heap.size w w'))
                      case atStart => exact ⟨(x5_1), (0), (by first | rfl | (simp; done) | (simp [*]; done)), H', ⟨Nat.le_refl _⟩, ⟨by (try simp only [hl5_1]); (with_reducible repeat (first | apply Kd.R_alloc | apply Kd.R_drewN | apply Kd.R_drew)); exact HO_5.out⟩, ⟨by (try simp only [hl5_1]); (with_reducible repeat (first | apply Kd.R_alloc | apply Kd.R_drewN | apply Kd.R_drew)); exact HO265.out⟩, ⟨by repeat (first | (with_reducible first | exact HB.out | apply below_alloc | apply pw_below_drewN | apply below_drew1) | exact HB.out)⟩⟩
                      case round =>
                        clear H'
                        try clear c1
                        try clear q1
                        try clear p2
                        try clear q2
                        try clear hx2
                        try clear c3
                        try clear c3b0
                        try clear c3b1
                        try clear c4
                        try clear c4b0
                        try clear c4b1
                        try clear c5
                        try clear c5b0
                        try clear c6
                        try clear c6b0
                        try clear p6
                        try clear p7
                        try clear q7
                        try clear hx7
                        try clear hf7
                        try clear c12
                        try clear c12b0
                        try clear c13
                        try clear c13b0
                        try clear c14
                        try clear c14b0
                        try clear q15
                        try clear c16
                        try clear hx262_0
                        try clear hx7_0
                        try clear p2
                        try clear p262
                        try clear p7
                        try clear q262
                        try clear q7
                        obtain ⟨x5_2, x28_2, rfl, HA, HK2, HO_5, HO_26, HB⟩ := hrel
                        have hl5_2 := (Kd.R_reads' HO_5.out).1
                        rw [hl5_2] at HO_5
                        (try simp only [hl5_2])
                        (try simp only [hl5_2] at HO_26)
                        cases gk with
                        | zero => exact absurd HA.out (by simp [impl_reachable.l1])
                        | succ k2 =>
                          have H := HA.out
                          clear HA
                          simp only [impl_reachable.l1] at H
                          by_cases c20 : x28_2 < (t263.length : Int)
                          · rw [if_pos c20] at H
                            have c20b0 : decide (x28_2 < (t263.length : Int)) = true := decide_eq_true c20
                            (try (have c20hhl5_1 := c20b0; simp only [hl5_1] at c20hhl5_1))
                            (try (have c20hhl5_2 := c20b0; simp only [hl5_2] at c20hhl5_2))
                            clear c20
                            by_cases c21 : 0 ≤ x28_2
                            · rw [if_pos c21] at H
                              have c21b0 : decide (0 ≤ x28_2) = true := decide_eq_true c21
                              clear c21
                              by_cases c22 : x28_2 < (t263.length : Int)
                              · rw [if_pos c22] at H
                                have c22b0 : decide (x28_2 < (t263.length : Int)) = true := decide_eq_true c22
                                (try (have c22hhl5_1 := c22b0; simp only [hl5_1] at c22hhl5_1))
                                (try (have c22hhl5_2 := c22b0; simp only [hl5_2] at c22hhl5_2))
                                clear c22
                                by_cases c23 : 0 ≤ (rd t263 x28_2)
                                · rw [if_pos c23] at H
                                  have c23b0 : decide (0 ≤ (rd t263 x28_2)) = true := decide_eq_true c23
                                  clear c23
                                  by_cases c24 : (rd t263 x28_2) < (x5_2.length : Int)
                                  · rw [if_pos c24] at H
                                    have c24b0 : decide ((rd t263 x28_2) < (x5_2.length : Int)) = true := decide_eq_true c24
                                    (try (have c24hhl5_1 := c24b0; simp only [hl5_1] at c24hhl5_1))
                                    (try (have c24hhl5_2 := c24b0; simp only [hl5_2] at c24hhl5_2))
                                    clear c24
                                    obtain ⟨y267, hy267⟩ : ∃ y_ : List Bool, y_ = (x5_2.set ((rd t263 x28_2) : Int).toNat true) := ⟨_, rfl⟩
                                    replace H : (impl_reachable.l1 k2 l0 y267 (l0.length : Int) x17_1 t263 (t263.length : Int) (wrap64 (x28_2 + 1))) = some r := by first | (rw [hy267]; with_reducible exact H) | (have H2_ := (Option.bind_some _ _).symm.trans H; rw [hy267]; with_reducible exact H2_) | (have H2_ := (Option.bind_some _ _).symm.trans H; with_reducible exact H2_) | with_reducible exact H | (rw [hy267]; exact H) | exact H
                                    have Ny267 := Aside0.mk hy267
                                    clear hy267
                                    have H' := Aside0.mk H
                                    clear H
                                    have p266 : 0 ≤ (x28_2 : Int) := of_decide_eq_true (by first | (with_reducible assumption) | assumption)
                                    have q266 : x28_2 < (t263.length : Int) := of_decide_eq_true (by first | (with_reducible assumption) | assumption)
                                    obtain ⟨ad266, e266, hx266_0⟩ := Kd.at_int (Kd.R_reads' HO_26.out).2.2 x28_2 p266 q266
                                    cases e266
                                    replace p266 := eq_true p266
                                    replace q266 := eq_true q266
                                    have p25 : 0 ≤ ((rd t263 x28_2) : Int) := of_decide_eq_true (by first | (with_reducible assumption) | assumption)
                                    have q25 : ((rd t263 x28_2) : Int) < ((x5_2.length : Int) : Int) := of_decide_eq_true (by first | (with_reducible assumption) | assumption)
                                    obtain ⟨hx25_0, hf25_0⟩ := Kd.R_celln false HO_5.out ((rd t263 x28_2) : Int) p25 q25
                                    replace p25 := eq_true p25
                                    replace q25 := eq_true q25
                                    have HP26 := Kd.R_putg HO_5.out ((rd t263 x28_2) : Int) true
                                    go_wp2_with (first | ((with_reducible refine gate_store (t := 4) (p := 34) rfl ?_); refine store_event (t := 4) (p := 34) (v := ?vo_w27) (w1 := (wr.setCell ⟨go7, ((rd t263 x28_2) : Int).toNat, none⟩ (.bool true))) ?hg ?ho ?hn ?hr ?_; (case ho => rfl); (case hg => rfl); (case hn => rfl); (case hr => first | (go_simp; done) | (go_simp; rfl)); intro w27 hw; have hg : wr.grownBy w27 (some go7) := (by rw [hw]; exact HP26.2); have hp_ : Kd.R Kd.bool 4 w27 w.heap.size (fun _ => True) (.slice (some ⟨go7, 0, none⟩) x5_2.length co7) y267 := (by rw [hw, Ny267.out]; exact HP26.1); clear HP26; have n0_ := Aside0.mk (hp_); have n1_ := Aside0.mk (Kd.R_over' (v := (.slice (some ⟨go7, 0, none⟩) x5_2.length co7)) (by (with_reducible repeat (first | apply Kd.R_alloc | apply Kd.R_drewN | apply Kd.R_drew)); exact HO_26.out) (Kd.R_typed HO_5.out) (by decide) hg); have n2_ := Aside0.mk ((by rw [hw]; exact below_set (HB.out) GB7.out : Below w.heap.size w w27)); clear HO_5; clear HO_26; clear HB; have HO_5 := n0_; have HO_26 := n1_; have HB := n2_; clear n0_ n1_ n2_; clear hg hw hp_))
                                    (try simp only [← hl5_2])
                                    go_roundg k2
                                    case measure => have := HK1.out; have := HK2.out; omega
                                    case rel => exact ⟨(y267), (wrap64 (x28_2 + 1)), (by first | rfl | (simp; done) | (simp [*]; done)), H', ⟨by have := HK1.out; have := HK2.out; omega⟩, ⟨by (try simp only [hl5_1]); (try simp only [hl5_2]); (with_reducible repeat (first | apply Kd.R_alloc | apply Kd.R_drewN | apply Kd.R_drew)); exact HO_5.out⟩, ⟨by (try simp only [hl5_1]); (try simp only [hl5_2]); (with_reducible repeat (first | apply Kd.R_alloc | apply Kd.R_drewN | apply Kd.R_drew)); exact HO_26.out⟩, ⟨by repeat (first | (with_reducible first | exact HB.out | apply below_alloc | apply pw_below_drewN | apply below_drew1) | exact HB.out)⟩⟩
                                  · rw [if_neg c24] at H
                                    exact absurd H (by simp)
                                · rw [if_neg c23] at H
                                  exact absurd H (by simp)
                              · rw [if_neg c22] at H
                                exact absurd H (by simp)
                            · rw [if_neg c21] at H
                              exact absurd H (by simp)
                          · rw [if_neg c20] at H
                            have c20b0 : decide (x28_2 < (t263.length : Int)) = false := decide_eq_false c20
                            (try (have c20hhl5_1 := c20b0; simp only [hl5_1] at c20hhl5_1))
                            (try (have c20hhl5_2 := c20b0; simp only [hl5_2] at c20hhl5_2))
                            clear c20
                            have H' := Aside0.mk H
                            clear H
                            go_wp2
                            (try simp only [← hl5_1, ← hl5_2])
                            go_roundg k2
                            case measure => have := HK1.out; have := HK2.out; omega
                            case rel => exact ⟨(x5_2), (wrap64 (x17_1 + 1)), (by first | rfl | (simp; done) | (simp [*]; done)), H', ⟨by have := HK1.out; have := HK2.out; omega⟩, ⟨by (try simp only [hl5_1]); (try simp only [hl5_2]); (with_reducible repeat (first | apply Kd.R_alloc | apply Kd.R_drewN | apply Kd.R_drew)); exact HO_5.out⟩, ⟨by repeat (first | (with_reducible first | exact HB.out | apply below_alloc | apply pw_below_drewN | apply below_drew1) | exact HB.out)⟩⟩
                    · replace c16 := Bool.eq_false_iff.mpr c16
                      subst c16
                      have H1 : (impl_reachable.l0 k1 l0 x5_1 (l0.length : Int) (wrap64 (x17_1 + 1))) = some r := by rw [if_neg (show ¬ (false = true) by decide)] at H; exact H
                      clear H
                      have H := H1
                      clear H1
                      have H' := Aside0.mk H
                      clear H
                      have p262 : 0 ≤ (x17_1 : Int) := of_decide_eq_true (by first | (with_reducible assumption) | assumption)
                      have q262 : x17_1 < (x5_1.length : Int) := of_decide_eq_true (by first | (with_reducible assumption) | assumption)
                      obtain ⟨ad262, e262, hx262_0⟩ := Kd.at_bool (Kd.R_reads' HO_5.out).2.2 x17_1 p262 q262
                      (try rw [← Nbq15.out] at hx262_0)
                      obtain rfl : (⟨go7, 0, none⟩ : Addr) = ad262 := (by injection e262)
                      (first | simp only [add_plain] at hx262_0 | simp only [add_at] at hx262_0 | simp only [Addr.add, Nat.zero_add] at hx262_0 | skip)
                      replace p262 := eq_true p262
                      replace q262 := eq_true q262
                      go_wp2
                      (try simp only [← hl5_1])
                      go_roundg k1
                      case measure => have := HK1.out; omega
                      case rel => exact ⟨(x5_1), (wrap64 (x17_1 + 1)), (by first | rfl | (simp; done) | (simp [*]; done)), H', ⟨by have := HK1.out; omega⟩, ⟨by (try simp only [hl5_1]); (with_reducible repeat (first | apply Kd.R_alloc | apply Kd.R_drewN | apply Kd.R_drew)); exact HO_5.out⟩, ⟨by repeat (first | (with_reducible first | exact HB.out | apply below_alloc | apply pw_below_drewN | apply below_drew1) | exact HB.out)⟩⟩
                  · rw [if_neg c14] at H
                    exact absurd H (by simp)
                · rw [if_neg c13] at H
                  exact absurd H (by simp)
              · rw [if_neg c12] at H
                have c12b0 : decide (x17_1 < (l0.length : Int)) = false := decide_eq_false c12
                (try (have c12hhl5_1 := c12b0; simp only [hl5_1] at c12hhl5_1))
                clear c12
                obtain rfl := Option.some.inj H
                go_wp2
                go_ret
                exact ⟨_, by first | rfl | (simp [errW_none, errW_some] <;> rfl) | (simp [*, errW_none, errW_some] <;> rfl), by (with_reducible repeat (first | apply Kd.R_alloc | apply Kd.R_drewN | apply Kd.R_drew)); exact HO_5.out, by repeat (first | (with_reducible first | exact HB.out | apply below_alloc | apply pw_below_drewN | apply below_drew1) | exact HB.out)⟩
        · rw [if_neg c6] at H
          exact absurd H (by simp)
      · rw [if_neg c5] at H
        exact absurd H (by simp)
    · rw [if_neg c4] at H
      exact absurd H (by simp)
  · rw [if_neg c3] at H
    exact absurd H (by simp)

-- NOT PRINTED: function 51 (impl_list)

/-! ### impl_EndsFrom: function 24 -/
/-- The closure's reading: whether a step is there and ends the program. -/
def impl_EndsFrom.pr (l : List Bool) (q : List S51) (i : Int) : Option Bool := if 0 ≤ i then (if i < (l.length : Int) then (if rdOf false l i = true then (if i < (q.length : Int) then some ((rd_T51 q i).f0 == 11) else none) else some false) else none) else none
set_option maxHeartbeats 4000000 in
set_option maxRecDepth 100000 in
theorem impl_EndsFrom.pr_calls (B B2 : Nat) (A : Option Addr) (c : Nat) (l : List Bool) (A2 : Option Addr) (c2 : Nat) (q : List S51) (x : Int) (v : Bool) (w : World) (hcl : w.cell? ⟨B, 0, none⟩ = some (.slice A l.length c)) (hr : Kd.C Kd.bool w A l.length l)
    (hcl2 : w.cell? ⟨B2, 0, none⟩ = some (.slice A2 q.length c2)) (hr2 : Kd.C k51 w A2 q.length q) (h : impl_EndsFrom.pr l q x = some v) :
    Calls Try.prog 53 #[.int .i64 x, .pointer (some ⟨B, 0, none⟩), .pointer (some ⟨B2, 0, none⟩)] w fun e w' => e = .returned (.bool v) ∧ Drawn0 w w' := by
  have HR := Aside0.mk hr
  have HR2 := Aside0.mk hr2
  clear hr hr2
  unfold impl_EndsFrom.pr at h
  by_cases c5 : 0 ≤ x
  · rw [if_pos c5] at h
    by_cases c6 : x < (l.length : Int)
    · rw [if_pos c6] at h
      obtain ⟨ad101, e101, hx101_0⟩ := Kd.at_bool HR.out x c5 c6
      cases e101
      by_cases c7 : rdOf false l x = true
      · rw [if_pos c7] at h
        rw [c7] at hx101_0
        by_cases c9 : x < (q.length : Int)
        · rw [if_pos c9] at h
          obtain rfl := Option.some.inj h
          clear h c7
          obtain ⟨ad102, e102, hx102_0, hx102_1, hx102_2, hx102_3, hx102_4, hx102_5⟩ := at_T51 HR2.out x c5 c9
          cases e102
          clear hx102_1 hx102_2 hx102_3 hx102_4 hx102_5
          have p101 := eq_true c5
          have q101 := eq_true c6
          have q102 := eq_true c9
          clear c5 c6 c9
          go_enter Try.func53, Try.ntmps53
          go_wp2
          go_ret
          exact ⟨by first | rfl | (simp; done) | (simp [*]; done), by repeat (first | exact Drawn0.refl _ | apply Drawn0.step)⟩
        · rw [if_neg c9] at h; cases h
      · rw [if_neg c7] at h
        rw [Bool.eq_false_iff.mpr c7] at hx101_0
        obtain rfl := Option.some.inj h
        clear h c7
        have p101 := eq_true c5
        have q101 := eq_true c6
        clear c5 c6
        go_enter Try.func53, Try.ntmps53
        go_wp2
        go_ret
        exact ⟨by first | rfl | (simp; done) | (simp [*]; done), by repeat (first | exact Drawn0.refl _ | apply Drawn0.step)⟩
    · rw [if_neg c6] at h; cases h
  · rw [if_neg c5] at h; cases h
def impl_EndsFrom.lst : Nat → (Int → Option Bool) → Int → List Int → Int → Option (List Int)
  | 0, _, _, _, _ => none
  | k + 1, p, many, out, i => if i < many then ((p i).bind fun t => (if t = true then (if out.length < 17592186044416 then impl_EndsFrom.lst k p many (out ++ [i]) (wrap64 (i + 1)) else none) else impl_EndsFrom.lst k p many out (wrap64 (i + 1)))) else some out
theorem impl_EndsFrom.lst_mono : ∀ k l m o i, LeO (impl_EndsFrom.lst k l m o i) (impl_EndsFrom.lst (k + 1) l m o i)
  | 0 => fun _ _ _ _ r h => by simp [impl_EndsFrom.lst] at h
  | k + 1 => by
    have ih0 := impl_EndsFrom.lst_mono k
    intro l m o i
    unfold impl_EndsFrom.lst
    exact LeO.ite (LeO.bind (LeO.refl _) (fun _ => LeO.ite (LeO.ite (ih0 _ _ _ _) (LeO.none _)) (ih0 _ _ _ _))) (LeO.refl _)
set_option maxHeartbeats 8000000 in
set_option maxRecDepth 100000 in
theorem impl_EndsFrom.lst_calls (k : Nat) (B B2 : Nat) (p : Int → Option Bool) (many : Int) (r : List Int) (w : World)
    (hp : ∀ (W : World) (x : Int) (v : Bool), Below w.heap.size w W → p x = some v → Calls Try.prog 53 #[.int .i64 x, .pointer (some ⟨B, 0, none⟩), .pointer (some ⟨B2, 0, none⟩)] W fun e w' => e = .returned (.bool v) ∧ Drawn0 W w')
    (h : impl_EndsFrom.lst k p many [] 0 = some r) :
    Calls Try.prog 51 #[.int .i64 many, .func (.func 53) #[] #[.pointer (some ⟨B, 0, none⟩), .pointer (some ⟨B2, 0, none⟩)]] w fun e w' => ∃ v0_ : Value, e = .returned v0_ ∧ Kd.R (Kd.int .i64) 3 w' w.heap.size (fun _ => True) v0_ r ∧ Below w.heap.size w w' := by
  have H' := Aside0.mk h
  clear h
  have HB := Aside0.mk (Below.refl w.heap.size w)
  have HP := Aside0.mk hp
  clear hp
  have eg := fun args w => enters_ (P := Try.prog) Try.func53 (by kernel_rfl) rfl args w
  go_enter Try.func51, Try.ntmps51
  go_wp2
  go_loopg [5, 8] k (fun kq v5 v8 w' => ∃ (o : List Int) (x : Int), v8 = .int .i64 x ∧ Aside0 (impl_EndsFrom.lst kq p many o x = some r) ∧ Aside0 (kq ≤ k) ∧ Aside0 (Kd.R (Kd.int .i64) 3 w' w.heap.size (fun _ => True) v5 o) ∧ Aside0 (Below w.heap.size w w'))
  case atStart => exact ⟨[], (0), (by first | rfl | (simp; done) | (simp [*]; done)), H', ⟨Nat.le_refl _⟩, ⟨Kd.R_nil _ _ _ _ _⟩, ⟨by repeat (first | (with_reducible first | exact HB.out | apply below_alloc | apply pw_below_drewN | apply below_drew1) | exact HB.out)⟩⟩
  case round =>
    clear H'
    obtain ⟨o, x, rfl, HA, HK1, HO, HB⟩ := hrel
    cases gk with
    | zero => exact absurd HA.out (by simp [impl_EndsFrom.lst])
    | succ k1 =>
      have H := HA.out
      clear HA
      simp only [impl_EndsFrom.lst] at H
      by_cases c4 : x < many
      · rw [if_pos c4] at H
        have c4b0 : decide (x < many) = true := decide_eq_true c4
        clear c4
        obtain ⟨t, A70, H⟩ := Option.bind_eq_some_iff.mp H
        have A7 := Aside0.mk A70
        clear A70
        by_cases c8 : t = true
        · subst c8
          rw [if_pos rfl] at H
          by_cases c12 : o.length < 17592186044416
          · rw [if_pos c12] at H
            have LMc12 := Aside0.mk c12
            clear c12
            have H' := Aside0.mk H
            clear H
            go_wp2_with (first | (go_at_call 53; refine (HP.out _ x true (by repeat (first | (with_reducible first | exact HB.out | apply below_alloc | apply pw_below_drewN | apply below_drew1) | exact HB.out)) A7.out).mono ?_; rintro e w' ⟨rfl, ⟨nd, rfl⟩⟩) | ((with_reducible refine gate_builtin (b := .append) (xs := #[.tmp 14, .tmp 16]) rfl ?_); at_builtin; refine Kd.R_append (Kd.int .i64) (w0 := w) w.heap.size rfl (.tmp 14) (.tmp 16) 30 3 (.int .i64 0) 8 rfl Try.underlying30 info3 rfl (by decide) (by omega) u5 o x [.int .i64 x] (fun _ => True) (fun _ => False) rfl rfl ?aP (fun _ hk => hk.elim) ?aF ?aO ?aB ?aS ?aL ?_; (case aP => exact rfl); (case aB => exact (by repeat (first | (with_reducible first | exact HB.out | apply below_alloc | apply pw_below_drewN | apply below_drew1) | exact HB.out))); (case aF => exact (fun _ _ => trivial)); (case aO => exact (by (with_reducible repeat (first | apply Kd.R_alloc | apply Kd.R_drewN | apply Kd.R_drew)); exact HO.out)); (case aS => exact (below_size (by repeat (first | (with_reducible first | exact HB.out | apply below_alloc | apply pw_below_drewN | apply below_drew1) | exact HB.out)))); (case aL => have := LMc12.out; omega); intro v121 w13 ho hb hg hat; have n0_ := Aside0.mk (hb); have n1_ := Aside0.mk (ho); clear HB; clear HO; have HB := n0_; have HO2 := n1_; clear n0_ n1_; clear ho hb hg hat))
            go_roundg k1
            case measure => have := HK1.out; omega
            case rel => exact ⟨_, (wrap64 (x + 1)), (by first | rfl | (simp; done) | (simp [*]; done)), H', ⟨by have := HK1.out; omega⟩, ⟨by (with_reducible repeat (first | apply Kd.R_alloc | apply Kd.R_drewN | apply Kd.R_drew)); exact HO2.out⟩, ⟨by repeat (first | (with_reducible first | exact HB.out | apply below_alloc | apply pw_below_drewN | apply below_drew1) | exact HB.out)⟩⟩
          · rw [if_neg c12] at H
            exact absurd H (by simp)
        · replace c8 := Bool.eq_false_iff.mpr c8
          subst c8
          rw [if_neg (by simp)] at H
          have H' := Aside0.mk H
          clear H
          go_wp2_with (go_at_call 53; refine (HP.out _ x false (by repeat (first | (with_reducible first | exact HB.out | apply below_alloc | apply pw_below_drewN | apply below_drew1) | exact HB.out)) A7.out).mono ?_; rintro e w' ⟨rfl, ⟨nd, rfl⟩⟩)
          go_roundg k1
          case measure => have := HK1.out; omega
          case rel => exact ⟨_, (wrap64 (x + 1)), (by first | rfl | (simp; done) | (simp [*]; done)), H', ⟨by have := HK1.out; omega⟩, ⟨by (with_reducible repeat (first | apply Kd.R_alloc | apply Kd.R_drewN | apply Kd.R_drew)); exact HO.out⟩, ⟨by repeat (first | (with_reducible first | exact HB.out | apply below_alloc | apply pw_below_drewN | apply below_drew1) | exact HB.out)⟩⟩
      · rw [if_neg c4] at H
        have c4b0 : decide (x < many) = false := decide_eq_false c4
        clear c4
        obtain rfl := Option.some.inj H
        clear H
        go_wp2
        go_ret
        exact ⟨_, by first | rfl | (simp; done) | (simp [*]; done), by (with_reducible repeat (first | apply Kd.R_alloc | apply Kd.R_drewN | apply Kd.R_drew)); exact HO.out, by repeat (first | (with_reducible first | exact HB.out | apply below_alloc | apply pw_below_drewN | apply below_drew1) | exact HB.out)⟩

def impl_EndsFrom.f (k : Nat) (l0 : List (S51)) (a1 : Int) : Option (List Int × Bool) := (impl_isStep.f k l0 a1).bind fun t => if t = true then ((impl_reachable.f k l0 a1).bind fun y => (impl_EndsFrom.lst k (impl_EndsFrom.pr y l0) (l0.length : Int) [] 0).bind fun o => some (o, true)) else some (([] : List Int), false)
theorem impl_EndsFrom.mono : ∀ a0 a1 k, LeO (impl_EndsFrom.f k a0 a1) (impl_EndsFrom.f (k + 1) a0 a1) := by
  intro a0 a1 k
  unfold impl_EndsFrom.f
  exact LeO.bind (impl_isStep.mono _ _ _) (fun _ => LeO.ite (LeO.bind (impl_reachable.mono _ _ _) (fun _ => LeO.bind (impl_EndsFrom.lst_mono _ _ _ _ _) (fun _ => LeO.refl _))) (LeO.refl _))
set_option maxHeartbeats 8000000 in
set_option maxRecDepth 100000 in
theorem impl_EndsFrom.calls (k : Nat) (A0 : Option Addr) (c0 : Nat) (l0 : List (S51)) (a1 : Int) (r1 : List Int) (r2 : Bool) (w : World) (hr0 : Kd.C k51 w A0 l0.length l0) (hc0 : l0.length ≤ c0) (h : impl_EndsFrom.f k l0 a1 = some (r1, r2)) :
    Calls Try.prog 24 #[.slice A0 l0.length c0, .int .i64 a1] w fun e w' => ∃ v0_ : Value, e = .returned (.tuple #[v0_, .bool r2]) ∧ Kd.R (Kd.int .i64) 3 w' w.heap.size (fun _ => True) v0_ r1 ∧ Below w.heap.size w w' := by
  have HR0 := Aside0.mk hr0
  have HC0 := Aside0.mk hc0
  clear hr0 hc0
  obtain ⟨t, A70, H⟩ := Option.bind_eq_some_iff.mp h
  have A7 := Aside0.mk A70
  clear A70 h
  have HB := Aside0.mk (Below.refl w.heap.size w)
  have eg1 := fun args w => enters_ (P := Try.prog) Try.func44 (by kernel_rfl) rfl args w
  have eg2 := fun args w => enters_ (P := Try.prog) Try.func50 (by kernel_rfl) rfl args w
  have eg3 := fun args w => enters_ (P := Try.prog) Try.func51 (by kernel_rfl) rfl args w
  by_cases c8 : t = true
  · subst c8
    rw [if_pos rfl] at H
    obtain ⟨y, A80, H⟩ := Option.bind_eq_some_iff.mp H
    have A8 := Aside0.mk A80
    clear A80
    obtain ⟨o, A90, H⟩ := Option.bind_eq_some_iff.mp H
    have A9 := Aside0.mk A90
    clear A90
    simp only [Option.some.injEq, Prod.mk.injEq] at H
    obtain ⟨rfl, rfl⟩ := H
    go_enter Try.func24, Try.ntmps24
    go_wp2_with (first | ((with_reducible refine gate_dst (N := 2) rfl ?_); refine box_event ?hg (N := 2) ?hd (cs := #[.slice A0 l0.length c0]) (t := 26) ?hr ?_; (case hd => rfl); (case hg => rfl); (case hr => first | (go_simp; done) | (go_simp; rfl)); intro g2 hg w2 hbox hb; have n0_ := Aside0.mk (below_step (by repeat (first | (with_reducible first | exact HB.out | apply below_alloc | apply pw_below_drewN | apply below_drew1 | refine below_set ?_ GE1.out) | exact HB.out)) hb); have GE2 := Aside0.mk ((by rw [hg]; exact (below_size (by repeat (first | (with_reducible first | exact HB.out | apply below_alloc | apply pw_below_drewN | apply below_drew1 | refine below_set ?_ GE1.out) | exact HB.out)))) : w.heap.size ≤ g2); clear HB; have HB := n0_; have BK2 := Aside0.mk hbox; clear n0_ hb hbox hg; have hcz2_0 : w2.cell? ⟨g2, 0, none⟩ = some (.slice A0 l0.length c0) := (blk_cell BK2.out 0).trans rfl) | (go_at_call 44; refine (impl_isStep.calls k _ _ l0 a1 true _ (Kd.C_below HR0.out (by repeat (first | (with_reducible first | exact HB.out | apply below_alloc | apply pw_below_drewN | apply below_drew1 | refine below_set ?_ GE1.out) | exact HB.out))) HC0.out A7.out).mono ?_; rintro e w3 ⟨rfl, hb⟩; have n0_ := Aside0.mk (below_step (by repeat (first | (with_reducible first | exact HB.out | apply below_alloc | apply pw_below_drewN | apply below_drew1 | refine below_set ?_ GE1.out) | exact HB.out)) hb); have n1_ := Aside0.mk (blk_below (by (with_reducible repeat (first | refine blk_drewN ?_ _ | refine blk_drew ?_ | refine blk_alloc ?_ _)); exact BK2.out) hb); clear HB hb BK2 hcz2_0; have HB := n0_; have BK2 := n1_; clear n0_ n1_; have hcz2_0 : w3.cell? ⟨g2, 0, none⟩ = some (.slice A0 l0.length c0) := (blk_cell BK2.out 0).trans rfl) | (go_at_call 50; refine (impl_reachable.calls k _ _ l0 a1 y _ (Kd.C_below HR0.out (by repeat (first | (with_reducible first | exact HB.out | apply below_alloc | apply pw_below_drewN | apply below_drew1 | refine below_set ?_ GE1.out) | exact HB.out))) HC0.out A8.out).mono ?_; rintro e w4 ⟨v0, rfl, ho, hb⟩; obtain ⟨Ao, co, eo⟩ := Kd.R_slice ho; subst eo; have n0_ := Aside0.mk (below_step (by repeat (first | (with_reducible first | exact HB.out | apply below_alloc | apply pw_below_drewN | apply below_drew1 | refine below_set ?_ GE1.out) | exact HB.out)) hb); have n1_ := Aside0.mk (blk_below (by (with_reducible repeat (first | refine blk_drewN ?_ _ | refine blk_drew ?_ | refine blk_alloc ?_ _)); exact BK2.out) hb); have HO := Aside0.mk (Kd.R_reads' ho).2.2; clear HB hb ho BK2 hcz2_0; have HB := n0_; have BK2 := n1_; clear n0_ n1_; have hcz2_0 : w4.cell? ⟨g2, 0, none⟩ = some (.slice A0 l0.length c0) := (blk_cell BK2.out 0).trans rfl) | ((with_reducible refine gate_dst (N := 6) rfl ?_); refine box_event ?hg (N := 6) ?hd (cs := #[.slice none 0 0]) (t := 57) ?hr ?_; (case hd => rfl); (case hg => rfl); (case hr => first | (go_simp; done) | (go_simp; rfl)); intro g1 hg w5 hbox hb; have n0_ := Aside0.mk (below_step (by repeat (first | (with_reducible first | exact HB.out | apply below_alloc | apply pw_below_drewN | apply below_drew1 | refine below_set ?_ GE1.out) | exact HB.out)) hb); have n1_ := Aside0.mk (blk_below (by (with_reducible repeat (first | refine blk_drewN ?_ _ | refine blk_drew ?_ | refine blk_alloc ?_ _)); exact BK2.out) hb); have n2_ := Aside0.mk ((by rw [hg]; exact Nat.ne_of_lt (blk_lt BK2.out)) : g2 ≠ g1); have HOB := Aside0.mk hb; have HG := Aside0.mk hg; have GE1 := Aside0.mk ((by rw [hg]; exact (below_size (by repeat (first | (with_reducible first | exact HB.out | apply below_alloc | apply pw_below_drewN | apply below_drew1 | refine below_set ?_ GE1.out) | exact HB.out)))) : w.heap.size ≤ g1); clear HB BK2 hcz2_0; have HB := n0_; have BK2 := n1_; have NB := n2_; have BK1 := Aside0.mk hbox; clear n0_ n1_ n2_ hb hbox hg; have hnb := NB.out; have hnc := Ne.symm NB.out; have hcz2_0 : w5.cell? ⟨g2, 0, none⟩ = some (.slice A0 l0.length c0) := (blk_cell BK2.out 0).trans rfl; have hcz1_0 : w5.cell? ⟨g1, 0, none⟩ = some (.slice none 0 0) := (blk_cell BK1.out 0).trans rfl; have hfz1_0 := blk_frozen BK1.out 0) | (go_at_call 51; refine (impl_EndsFrom.lst_calls k g1 g2 (impl_EndsFrom.pr y l0) (l0.length : Int) o _ (fun W x v hbW hv => impl_EndsFrom.pr_calls g1 g2 Ao co y A0 c0 l0 x v W ((hbW.cell (p := ⟨g1, 0, none⟩) (blk_lt (blk_put (cs := #[.slice none 0 0]) BK1.out 0 (.slice Ao y.length co) rfl))).trans ((blk_cell (blk_put (cs := #[.slice none 0 0]) BK1.out 0 (.slice Ao y.length co) rfl) 0).trans rfl)) (Kd.C_below (Kd.C_below HO.out (below_set HOB.out (by rw [HG.out]; exact Nat.le_refl _))) hbW) ((hbW.cell (p := ⟨g2, 0, none⟩) (blk_lt (blk_far BK2.out NB.out _))).trans ((blk_cell (blk_far BK2.out NB.out _) 0).trans rfl)) (Kd.C_below (Kd.C_below HR0.out (by repeat (first | (with_reducible first | exact HB.out | apply below_alloc | apply pw_below_drewN | apply below_drew1 | refine below_set ?_ GE1.out) | exact HB.out))) hbW) hv) A9.out).mono ?_; rintro e w7 ⟨v1, rfl, ho2, hb⟩; have n0_ := Aside0.mk (Kd.R_lower ho2 (below_size (by repeat (first | (with_reducible first | exact HB.out | apply below_alloc | apply pw_below_drewN | apply below_drew1 | refine below_set ?_ GE1.out) | exact HB.out)))); have n1_ := Aside0.mk (below_step (by repeat (first | (with_reducible first | exact HB.out | apply below_alloc | apply pw_below_drewN | apply below_drew1 | refine below_set ?_ GE1.out) | exact HB.out)) hb); clear HB hb ho2; have HB := n1_; have HO2 := n0_; clear n0_ n1_))
    go_ret2
    exact ⟨_, by first | rfl | (simp; done) | (simp [*]; done), by (with_reducible repeat (first | apply Kd.R_alloc | apply Kd.R_drewN | apply Kd.R_drew)); exact HO2.out, by repeat (first | (with_reducible first | exact HB.out | apply below_alloc | apply pw_below_drewN | apply below_drew1 | refine below_set ?_ GE1.out) | exact HB.out)⟩
  · replace c8 := Bool.eq_false_iff.mpr c8
    subst c8
    rw [if_neg (by simp)] at H
    simp only [Option.some.injEq, Prod.mk.injEq] at H
    obtain ⟨rfl, rfl⟩ := H
    go_enter Try.func24, Try.ntmps24
    go_wp2_with (first | ((with_reducible refine gate_dst (N := 2) rfl ?_); refine box_event ?hg (N := 2) ?hd (cs := #[.slice A0 l0.length c0]) (t := 26) ?hr ?_; (case hd => rfl); (case hg => rfl); (case hr => first | (go_simp; done) | (go_simp; rfl)); intro g2 hg w2 hbox hb; have n0_ := Aside0.mk (below_step (by repeat (first | (with_reducible first | exact HB.out | apply below_alloc | apply pw_below_drewN | apply below_drew1 | refine below_set ?_ GE1.out) | exact HB.out)) hb); have GE2 := Aside0.mk ((by rw [hg]; exact (below_size (by repeat (first | (with_reducible first | exact HB.out | apply below_alloc | apply pw_below_drewN | apply below_drew1 | refine below_set ?_ GE1.out) | exact HB.out)))) : w.heap.size ≤ g2); clear HB; have HB := n0_; have BK2 := Aside0.mk hbox; clear n0_ hb hbox hg; have hcz2_0 : w2.cell? ⟨g2, 0, none⟩ = some (.slice A0 l0.length c0) := (blk_cell BK2.out 0).trans rfl) | (go_at_call 44; refine (impl_isStep.calls k _ _ l0 a1 false _ (Kd.C_below HR0.out (by repeat (first | (with_reducible first | exact HB.out | apply below_alloc | apply pw_below_drewN | apply below_drew1 | refine below_set ?_ GE1.out) | exact HB.out))) HC0.out A7.out).mono ?_; rintro e w3 ⟨rfl, hb⟩; have n0_ := Aside0.mk (below_step (by repeat (first | (with_reducible first | exact HB.out | apply below_alloc | apply pw_below_drewN | apply below_drew1 | refine below_set ?_ GE1.out) | exact HB.out)) hb); clear HB hb; have HB := n0_; clear n0_))
    go_ret2
    exact ⟨_, by first | rfl | (simp; done) | (simp [*]; done), Kd.R_nil _ _ _ _ _, by repeat (first | (with_reducible first | exact HB.out | apply below_alloc | apply pw_below_drewN | apply below_drew1 | refine below_set ?_ GE1.out) | exact HB.out)⟩

end Go.Proofs.Ytcmhkgpalfljbaa.PIE
