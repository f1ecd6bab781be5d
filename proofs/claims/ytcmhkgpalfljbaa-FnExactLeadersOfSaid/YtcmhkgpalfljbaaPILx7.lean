-- Made by myprint.py (this session's program, over the kit's print) for this claim. Lean checks it.
import Derived.Test.YtcmhkgpalfljbaaPILx0
import Derived.Test.YtcmhkgpalfljbaaPILx5
import Derived.Test.YtcmhkgpalfljbaaPILx6
namespace Go.Proofs.Ytcmhkgpalfljbaa.PIL
open Go.RowKit Go.Proofs.YtcmhkgpalfljbaaW.PrintWords Go.Proofs.YtcmhkgpalfljbaaW.PrintLast Go.Proofs.YtcmhkgpalfljbaaW.PrintMore
attribute [local go_sem] max2_int min2_int max_two min_two max_three min_three max_four min_four   -- for this text's walks alone
set_option linter.unusedVariables false
set_option linter.unusedSimpArgs false

/-! ### impl_reachable: function 50 -/
mutual
def impl_reachable.l0 : Nat → List (S51) → List Bool → Int → Int → Option (List Bool)
  | 0, _, _, _, _ => none
  | k + 1, x0, x5, x16, x17 => if x17 < x16 then (if 0 ≤ x17 then (if x17 < (x5.length : Int) then (if rdOf false x5 x17 = true then ((impl_nexts.f x0 x17).bind fun t267 => (impl_reachable.l1 k x0 x5 x16 x17 t267 (t267.length : Int) 0)) else (impl_reachable.l0 k x0 x5 x16 (wrap64 (x17 + 1)))) else (none)) else (none)) else (some x5)
def impl_reachable.l1 : Nat → List (S51) → List Bool → Int → Int → List Int → Int → Int → Option (List Bool)
  | 0, _, _, _, _, _, _, _ => none
  | k + 1, x0, x5, x16, x17, x26, x27, x28 => if x28 < x27 then (if 0 ≤ x28 then (if x28 < (x26.length : Int) then (if 0 ≤ (rd x26 x28) then (if (rd x26 x28) < (x5.length : Int) then (impl_reachable.l1 k x0 (x5.set ((rd x26 x28) : Int).toNat true) x16 x17 x26 x27 (wrap64 (x28 + 1))) else (none)) else (none)) else (none)) else (none)) else (impl_reachable.l0 k x0 x5 x16 (wrap64 (x17 + 1)))
end
def impl_reachable.f (k : Nat) (l0 : List (S51)) (a1 : Int) : Option (List Bool) := if 0 ≤ (l0.length : Int) then (if ((l0.length : Int) : Int).toNat ≤ 281474976710656 then ((some (List.replicate ((l0.length : Int) : Int).toNat false : List Bool)).bind fun y262 => (if 0 ≤ a1 then (if a1 < (y262.length : Int) then (impl_reachable.l0 k l0 (y262.set (a1 : Int).toNat true) (l0.length : Int) 0) else (none)) else (none))) else (none)) else (none)
theorem impl_reachable.mono_l : ∀ k, (∀ y0 y1 y2 y3, LeO (impl_reachable.l0 k y0 y1 y2 y3) (impl_reachable.l0 (k + 1) y0 y1 y2 y3)) ∧ (∀ y0 y1 y2 y3 y4 y5 y6, LeO (impl_reachable.l1 k y0 y1 y2 y3 y4 y5 y6) (impl_reachable.l1 (k + 1) y0 y1 y2 y3 y4 y5 y6))
  | 0 => ⟨fun _ _ _ _ r h => by simp [impl_reachable.l0] at h, fun _ _ _ _ _ _ _ r h => by simp [impl_reachable.l1] at h⟩
  | k + 1 => by
    obtain ⟨ih0, ih1⟩ := impl_reachable.mono_l k
    refine ⟨?_, ?_⟩
    · intro y0 y1 y2 y3
      unfold impl_reachable.l0
      repeat' first
      | (with_reducible exact ih0 _ _ _ _)
      | (with_reducible exact ih1 _ _ _ _ _ _ _)
      | (with_reducible exact LeO.refl _)
      | (with_reducible exact LeO.none _)
      | (with_reducible refine LeO.ite ?_ ?_)
      | (with_reducible refine LeO.bind ?_ (fun _ => ?_))
      | exact ih0 _ _ _ _
      | exact ih1 _ _ _ _ _ _ _
      | exact LeO.none _
      | refine LeO.ite ?_ ?_
      | refine LeO.bind ?_ (fun _ => ?_)
    · intro y0 y1 y2 y3 y4 y5 y6
      unfold impl_reachable.l1
      repeat' first
      | (with_reducible exact ih0 _ _ _ _)
      | (with_reducible exact ih1 _ _ _ _ _ _ _)
      | (with_reducible exact LeO.refl _)
      | (with_reducible exact LeO.none _)
      | (with_reducible refine LeO.ite ?_ ?_)
      | (with_reducible refine LeO.bind ?_ (fun _ => ?_))
      | exact ih0 _ _ _ _
      | exact ih1 _ _ _ _ _ _ _
      | exact LeO.none _
      | refine LeO.ite ?_ ?_
      | refine LeO.bind ?_ (fun _ => ?_)
theorem impl_reachable.mono : ∀ a0 a1 k, LeO (impl_reachable.f k a0 a1) (impl_reachable.f (k + 1) a0 a1) := by
  intro a0 a1 k
  obtain ⟨ih0, ih1⟩ := impl_reachable.mono_l k
  unfold impl_reachable.f
  repeat' first
      | (with_reducible exact ih0 _ _ _ _)
      | (with_reducible exact ih1 _ _ _ _ _ _ _)
      | (with_reducible exact LeO.refl _)
      | (with_reducible exact LeO.none _)
      | (with_reducible refine LeO.ite ?_ ?_)
      | (with_reducible refine LeO.bind ?_ (fun _ => ?_))
      | exact ih0 _ _ _ _
      | exact ih1 _ _ _ _ _ _ _
      | exact LeO.none _
      | refine LeO.ite ?_ ?_
      | refine LeO.bind ?_ (fun _ => ?_)
set_option maxHeartbeats 8000000 in
set_option maxRecDepth 100000 in
theorem impl_reachable.calls (k : Nat) (A0 : Option Addr) (c0 : Nat) (l0 : List (S51)) (a1 : Int) (r : List Bool) (w : World) (hr0 : Kd.C k51 w A0 l0.length l0) (hc0 : l0.length ≤ c0) (h : impl_reachable.f k l0 a1 = some r) :
    Calls Try.prog 50 #[.slice A0 l0.length c0, .int .i64 a1] w fun e w' => ∃ v0_ : Value, e = .returned (v0_) ∧ Kd.R Kd.bool 4 w' w.heap.size (fun _ => True) v0_ r ∧ Below w.heap.size w w' := by
  have HR0 := Aside0.mk hr0
  have HC0 := Aside0.mk hc0
  clear hr0 hc0
  have HB := Aside0.mk (Below.refl w.heap.size w)
  have H : (if 0 ≤ (l0.length : Int) then (if ((l0.length : Int) : Int).toNat ≤ 281474976710656 then ((some (List.replicate ((l0.length : Int) : Int).toNat false : List Bool)).bind fun y262 => (if 0 ≤ a1 then (if a1 < (y262.length : Int) then (impl_reachable.l0 k l0 (y262.set (a1 : Int).toNat true) (l0.length : Int) 0) else (none)) else (none))) else (none)) else (none)) = some r := h
  clear h
  by_cases c3 : 0 ≤ (l0.length : Int)
  · rw [if_pos c3] at H
    have c3b0 := eq_true c3
    have c3b1 : decide (0 ≤ (l0.length : Int)) = true := decide_eq_true c3
    clear c3
    by_cases c4 : ((l0.length : Int) : Int).toNat ≤ 281474976710656
    · rw [if_pos c4] at H
      have c4b0 := eq_true c4
      have c4b1 : decide (((l0.length : Int) : Int).toNat ≤ 281474976710656) = true := decide_eq_true c4
      clear c4
      obtain ⟨y262, hy262⟩ : ∃ y_ : List Bool, y_ = (List.replicate ((l0.length : Int) : Int).toNat false) := ⟨_, rfl⟩
      replace H : (if 0 ≤ a1 then (if a1 < (y262.length : Int) then (impl_reachable.l0 k l0 (y262.set (a1 : Int).toNat true) (l0.length : Int) 0) else (none)) else (none)) = some r := by first | (rw [hy262]; with_reducible exact H) | (have H2_ := (Option.bind_some _ _).symm.trans H; rw [hy262]; with_reducible exact H2_) | (have H2_ := (Option.bind_some _ _).symm.trans H; with_reducible exact H2_) | with_reducible exact H | (rw [hy262]; exact H) | exact H
      have Ny262 := Aside0.mk hy262
      clear hy262
      by_cases c5 : 0 ≤ a1
      · rw [if_pos c5] at H
        have c5b0 : decide (0 ≤ a1) = true := decide_eq_true c5
        clear c5
        by_cases c6 : a1 < (y262.length : Int)
        · rw [if_pos c6] at H
          have c6b0 : decide (a1 < (y262.length : Int)) = true := decide_eq_true c6
          clear c6
          obtain ⟨y265, hy265⟩ : ∃ y_ : List Bool, y_ = (y262.set (a1 : Int).toNat true) := ⟨_, rfl⟩
          replace H : (impl_reachable.l0 k l0 y265 (l0.length : Int) 0) = some r := by first | (rw [hy265]; with_reducible exact H) | (have H2_ := (Option.bind_some _ _).symm.trans H; rw [hy265]; with_reducible exact H2_) | (have H2_ := (Option.bind_some _ _).symm.trans H; with_reducible exact H2_) | with_reducible exact H | (rw [hy265]; exact H) | exact H
          have Ny265 := Aside0.mk hy265
          clear hy265
          have H' := Aside0.mk H
          clear H
          go_enter Try.func50, Try.ntmps50
          go_wp2_with (first | ((with_reducible refine gate_dst (N := 11) rfl ?_); refine Kd.R_make Kd.bool _ 4 rfl (N := 11) rfl 57 _ _ rfl (l0.length : Int) rfl rfl Try.underlying57 (.bool false) 1 info4 rfl (by decide) (by omega) false (ok := fun _ => True) (okp := fun _ => True) rfl (fun _ hk => hk) trivial (of_decide_eq_true (by first | (with_reducible assumption) | assumption)) (Nat.le_trans (Nat.mul_le_mul_right _ (of_decide_eq_true (by first | (with_reducible assumption) | assumption) : (l0.length : Int).toNat ≤ 281474976710656)) (by omega)) (Below.refl _ _) (Nat.le_refl _) ?_; intro v263 w8 ho9 hb hg_ hnew_; clear hg_ hnew_; (first | rw [← Ny262.out] at ho9 | (simp only [Int.reduceToNat] at ho9; rw [← Ny262.out] at ho9)); have n0_ := Aside0.mk (Kd.R_lower ho9 (below_size (bq_))); have n1_ := Aside0.mk (below_step (bq_) hb); clear HB; have HO264 := n0_; have HB := n1_; clear n0_ n1_; clear hb ho9; have p7 : 0 ≤ (a1 : Int) := of_decide_eq_true (by first | (with_reducible assumption) | assumption); have q7 : (a1 : Int) < ((y262.length : Int) : Int) := of_decide_eq_true (by first | (with_reducible assumption) | assumption); obtain ⟨go7, co7, eo7, gb7, gl7, cl7, HG7⟩ := Kd.R_form HO264.out (by omega); (first | cases eo7 | (injection eo7 with ea_ en_ ec_; (first | subst ea_ | (injection ea_ with ea_; subst ea_)); subst ec_; clear en_)); have GB7 := Aside0.mk gb7; have GG7 := Aside0.mk HG7; clear gb7 gl7 HG7; obtain ⟨hx7_0, hf7_0⟩ := Kd.R_celln false HO264.out (a1 : Int) p7 q7; replace p7 := eq_true p7; replace q7 := eq_true q7; obtain ⟨hy10_, hz10_⟩ := Kd.R_celln false HO264.out (a1 : Int) (of_decide_eq_true (by first | (with_reducible assumption) | assumption)) (of_decide_eq_true (by first | (with_reducible assumption) | assumption)); have HP10 := Kd.R_putg HO264.out (a1 : Int) true) | ((with_reducible refine gate_store (t := 4) (p := 14) rfl ?_); refine store_event (t := 4) (p := 14) (v := ?vo_w11) (w1 := (w8.setCell ⟨go7, (a1 : Int).toNat, none⟩ (.bool true))) ?hg ?ho ?hn ?hr ?_; (case ho => rfl); (case hg => rfl); (case hn => rfl); (case hr => first | (go_simp; done) | (go_simp; rfl)); intro w11 hw; have hg : w8.grownBy w11 (some go7) := (by rw [hw]; exact HP10.2); have hp_ : Kd.R Kd.bool 4 w11 w.heap.size (fun _ => True) (.slice (some ⟨go7, 0, none⟩) y262.length co7) y265 := (by rw [hw, Ny265.out]; exact HP10.1); clear HP10; have n0_ := Aside0.mk (hp_); have n1_ := Aside0.mk ((by rw [hw]; exact below_set (HB.out) GB7.out : Below w.heap.size w w11)); clear HO264; clear HB; have HO264 := n0_; have HB := n1_; clear n0_ n1_; clear hg hw hp_))
          go_loopg [17] k (fun kq v17 w' => ∃ (x5_1 : List Bool) (x17_1 : Int), v17 = .int .i64 x17_1 ∧ Aside0 (impl_reachable.l0 kq l0 x5_1 (l0.length : Int) x17_1 = some r) ∧ Aside0 (kq ≤ k) ∧ Aside0 (Kd.R Kd.bool 4 w' w.heap.size (fun _ => True) (.slice (some ⟨go7, 0, none⟩) y262.length co7) x5_1) ∧ Aside0 (Below w.heap.size w w'))
          case atStart => exact ⟨(y265), (0), (by first | rfl | (simp; done) | (simp [*]; done)), H', ⟨Nat.le_refl _⟩, ⟨rq_ HO264.out⟩, ⟨bq_⟩⟩
          case round =>
            clear H'
            try clear p2
            try clear c3
            try clear c3b0
            try clear c3b1
            try clear c4
            try clear c4b0
            try clear c4b1
            try clear c5
            try clear c5b0
            try clear c6
            try clear c6b0
            try clear p7
            try clear q7
            try clear hx7
            try clear hf7
            try clear hx7_0
            try clear p7
            try clear q7
            obtain ⟨x5_1, x17_1, rfl, HA, HK1, HO_5, HB⟩ := hrel
            have hl5_1 := (Kd.R_reads' HO_5.out).1
            rw [hl5_1] at HO_5
            (try simp only [hl5_1])
            cases gk with
            | zero => exact absurd HA.out (by simp [impl_reachable.l0])
            | succ k1 =>
              have H := HA.out
              clear HA
              simp only [impl_reachable.l0] at H
              by_cases c12 : x17_1 < (l0.length : Int)
              · rw [if_pos c12] at H
                have c12b0 : decide (x17_1 < (l0.length : Int)) = true := decide_eq_true c12
                (try (have c12hhl5_1 := c12b0; simp only [hl5_1] at c12hhl5_1))
                clear c12
                by_cases c13 : 0 ≤ x17_1
                · rw [if_pos c13] at H
                  have c13b0 : decide (0 ≤ x17_1) = true := decide_eq_true c13
                  clear c13
                  by_cases c14 : x17_1 < (x5_1.length : Int)
                  · rw [if_pos c14] at H
                    have c14b0 : decide (x17_1 < (x5_1.length : Int)) = true := decide_eq_true c14
                    (try (have c14hhl5_1 := c14b0; simp only [hl5_1] at c14hhl5_1))
                    clear c14
                    obtain ⟨bq15, hbq15⟩ : ∃ b_ : Bool, b_ = (rdOf false x5_1 x17_1) := ⟨_, rfl⟩
                    replace H : (if bq15 = true then ((impl_nexts.f l0 x17_1).bind fun t267 => (impl_reachable.l1 k1 l0 x5_1 (l0.length : Int) x17_1 t267 (t267.length : Int) 0)) else (impl_reachable.l0 k1 l0 x5_1 (l0.length : Int) (wrap64 (x17_1 + 1)))) = some r := by rw [← hbq15] at H; exact H
                    have Nbq15 := Aside0.mk hbq15
                    clear hbq15
                    by_cases c16 : bq15 = true
                    · subst c16
                      have H1 : ((impl_nexts.f l0 x17_1).bind fun t267 => (impl_reachable.l1 k1 l0 x5_1 (l0.length : Int) x17_1 t267 (t267.length : Int) 0)) = some r := by rw [if_pos rfl] at H; exact H
                      clear H
                      have H := H1
                      clear H1
                      replace H := Option.bind_eq_some_iff.mp H
                      obtain ⟨t267, A170, H⟩ := H
                      replace H : (impl_reachable.l1 k1 l0 x5_1 (l0.length : Int) x17_1 t267 (t267.length : Int) 0) = some r := H
                      have A17 := Aside0.mk A170
                      clear A170
                      have H' := Aside0.mk H
                      clear H
                      have p266 : 0 ≤ (x17_1 : Int) := of_decide_eq_true (by first | (with_reducible assumption) | assumption)
                      have q266 : x17_1 < (x5_1.length : Int) := of_decide_eq_true (by first | (with_reducible assumption) | assumption)
                      obtain ⟨ad266, e266, hx266_0⟩ := Kd.at_bool (Kd.R_reads' HO_5.out).2.2 x17_1 p266 q266
                      (try rw [← Nbq15.out] at hx266_0)
                      obtain rfl : (⟨go7, 0, none⟩ : Addr) = ad266 := (by injection e266)
                      (first | simp only [add_plain] at hx266_0 | simp only [add_at] at hx266_0 | simp only [Addr.add, Nat.zero_add] at hx266_0 | skip)
                      replace p266 := eq_true p266
                      replace q266 := eq_true q266
                      go_wp2_with (first | ((with_reducible refine gate_callee (f := 61) rfl ?_); refine goesL_ (some 26) rfl rfl Try.func61 (by kernel_rfl) rfl #[.slice A0 l0.length c0, .int .i64 x17_1] rfl (by (try simp only [List.map_toArray, List.map_cons, List.map_nil]); first | done | rfl | (simp only [List.length_drop, List.length_take]; rfl)) ?_; (with_reducible refine (impl_nexts.calls _ _ l0 x17_1 t267 _ ?side1 ?side2 A17.out).mono ?_); (case side1 => repeat (first | exact (Kd.C_below HR0.out HB.out) | (with_reducible refine Kd.C_alloc ?_ _) | (with_reducible refine Kd.C_drewN ?_ _) | (with_reducible refine Kd.C_drew ?_))); (case side2 => exact HC0.out); rintro e w18 ⟨v268, rfl, ho0, hb⟩; refine ⟨_, rfl, ?_⟩; have n0_ := Aside0.mk (Kd.R_below (rq_ HO_5.out) hb); have n1_ := Aside0.mk (Kd.R_lower ho0 (below_size (bq_))); have n2_ := Aside0.mk (below_step (bq_) hb); clear HO_5; clear HB; have HO_5 := n0_; have HO269 := n1_; have HB := n2_; clear n0_ n1_ n2_; (try clear hb); (try clear hb2); (try clear hk); (try clear hi); (try clear ho0); obtain ⟨Ao19, co19, eo19⟩ := Kd.R_slice HO269.out; subst eo19))
                      go_loopg [28] k1 (fun kq v28 w' => ∃ (x5_2 : List Bool) (x28_2 : Int), v28 = .int .i64 x28_2 ∧ Aside0 (impl_reachable.l1 kq l0 x5_2 (l0.length : Int) x17_1 t267 (t267.length : Int) x28_2 = some r) ∧ Aside0 (kq ≤ k1) ∧ Aside0 (Kd.R Kd.bool 4 w' w.heap.size (fun _ => True) (.slice (some ⟨go7, 0, none⟩) x5_1.length co7) x5_2) ∧ Aside0 (Kd.R (Kd.int .i64) 3 w' w.heap.size (fun _ => True) (.slice Ao19 t267.length co19) t267) ∧ Aside0 (Below w.heap.size w w'))
                      case atStart => exact ⟨(x5_1), (0), (by first | rfl | (simp; done) | (simp [*]; done)), H', ⟨Nat.le_refl _⟩, ⟨by (try simp only [hl5_1]); (with_reducible repeat (first | apply Kd.R_alloc | apply Kd.R_drewN | apply Kd.R_drew)); exact HO_5.out⟩, ⟨by (try simp only [hl5_1]); (with_reducible repeat (first | apply Kd.R_alloc | apply Kd.R_drewN | apply Kd.R_drew)); exact HO269.out⟩, ⟨bq_⟩⟩
                      case round =>
                        clear H'
                        try clear c1
                        try clear q1
                        try clear p2
                        try clear q2
                        try clear hx2
                        try clear c3
                        try clear c3b0
                        try clear c3b1
                        try clear c4
                        try clear c4b0
                        try clear c4b1
                        try clear c5
                        try clear c5b0
                        try clear c6
                        try clear c6b0
                        try clear p6
                        try clear p7
                        try clear q7
                        try clear hx7
                        try clear hf7
                        try clear c12
                        try clear c12b0
                        try clear c13
                        try clear c13b0
                        try clear c14
                        try clear c14b0
                        try clear q15
                        try clear c16
                        try clear hx266_0
                        try clear hx7_0
                        try clear p2
                        try clear p266
                        try clear p7
                        try clear q266
                        try clear q7
                        obtain ⟨x5_2, x28_2, rfl, HA, HK2, HO_5, HO_26, HB⟩ := hrel
                        have hl5_2 := (Kd.R_reads' HO_5.out).1
                        rw [hl5_2] at HO_5
                        (try simp only [hl5_2])
                        (try simp only [hl5_2] at HO_26)
                        cases gk with
                        | zero => exact absurd HA.out (by simp [impl_reachable.l1])
                        | succ k2 =>
                          have H := HA.out
                          clear HA
                          simp only [impl_reachable.l1] at H
                          by_cases c20 : x28_2 < (t267.length : Int)
                          · rw [if_pos c20] at H
                            have c20b0 : decide (x28_2 < (t267.length : Int)) = true := decide_eq_true c20
                            (try (have c20hhl5_1 := c20b0; simp only [hl5_1] at c20hhl5_1))
                            (try (have c20hhl5_2 := c20b0; simp only [hl5_2] at c20hhl5_2))
                            clear c20
                            by_cases c21 : 0 ≤ x28_2
                            · rw [if_pos c21] at H
                              have c21b0 : decide (0 ≤ x28_2) = true := decide_eq_true c21
                              clear c21
                              by_cases c22 : x28_2 < (t267.length : Int)
                              · rw [if_pos c22] at H
                                have c22b0 : decide (x28_2 < (t267.length : Int)) = true := decide_eq_true c22
                                (try (have c22hhl5_1 := c22b0; simp only [hl5_1] at c22hhl5_1))
                                (try (have c22hhl5_2 := c22b0; simp only [hl5_2] at c22hhl5_2))
                                clear c22
                                by_cases c23 : 0 ≤ (rd t267 x28_2)
                                · rw [if_pos c23] at H
                                  have c23b0 : decide (0 ≤ (rd t267 x28_2)) = true := decide_eq_true c23
                                  clear c23
                                  by_cases c24 : (rd t267 x28_2) < (x5_2.length : Int)
                                  · rw [if_pos c24] at H
                                    have c24b0 : decide ((rd t267 x28_2) < (x5_2.length : Int)) = true := decide_eq_true c24
                                    (try (have c24hhl5_1 := c24b0; simp only [hl5_1] at c24hhl5_1))
                                    (try (have c24hhl5_2 := c24b0; simp only [hl5_2] at c24hhl5_2))
                                    clear c24
                                    obtain ⟨y271, hy271⟩ : ∃ y_ : List Bool, y_ = (x5_2.set ((rd t267 x28_2) : Int).toNat true) := ⟨_, rfl⟩
                                    replace H : (impl_reachable.l1 k2 l0 y271 (l0.length : Int) x17_1 t267 (t267.length : Int) (wrap64 (x28_2 + 1))) = some r := by first | (rw [hy271]; with_reducible exact H) | (have H2_ := (Option.bind_some _ _).symm.trans H; rw [hy271]; with_reducible exact H2_) | (have H2_ := (Option.bind_some _ _).symm.trans H; with_reducible exact H2_) | with_reducible exact H | (rw [hy271]; exact H) | exact H
                                    have Ny271 := Aside0.mk hy271
                                    clear hy271
                                    have H' := Aside0.mk H
                                    clear H
                                    have p270 : 0 ≤ (x28_2 : Int) := of_decide_eq_true (by first | (with_reducible assumption) | assumption)
                                    have q270 : x28_2 < (t267.length : Int) := of_decide_eq_true (by first | (with_reducible assumption) | assumption)
                                    obtain ⟨ad270, e270, hx270_0⟩ := Kd.at_int (Kd.R_reads' HO_26.out).2.2 x28_2 p270 q270
                                    cases e270
                                    replace p270 := eq_true p270
                                    replace q270 := eq_true q270
                                    have p25 : 0 ≤ ((rd t267 x28_2) : Int) := of_decide_eq_true (by first | (with_reducible assumption) | assumption)
                                    have q25 : ((rd t267 x28_2) : Int) < ((x5_2.length : Int) : Int) := of_decide_eq_true (by first | (with_reducible assumption) | assumption)
                                    obtain ⟨hx25_0, hf25_0⟩ := Kd.R_celln false HO_5.out ((rd t267 x28_2) : Int) p25 q25
                                    replace p25 := eq_true p25
                                    replace q25 := eq_true q25
                                    have HP26 := Kd.R_putg HO_5.out ((rd t267 x28_2) : Int) true
                                    go_wp2_with (first | ((with_reducible refine gate_store (t := 4) (p := 34) rfl ?_); refine store_event (t := 4) (p := 34) (v := ?vo_w27) (w1 := (wr.setCell ⟨go7, ((rd t267 x28_2) : Int).toNat, none⟩ (.bool true))) ?hg ?ho ?hn ?hr ?_; (case ho => rfl); (case hg => rfl); (case hn => rfl); (case hr => first | (go_simp; done) | (go_simp; rfl)); intro w27 hw; have hg : wr.grownBy w27 (some go7) := (by rw [hw]; exact HP26.2); have hp_ : Kd.R Kd.bool 4 w27 w.heap.size (fun _ => True) (.slice (some ⟨go7, 0, none⟩) x5_2.length co7) y271 := (by rw [hw, Ny271.out]; exact HP26.1); clear HP26; have n0_ := Aside0.mk (hp_); have n1_ := Aside0.mk (Kd.R_over' (v := (.slice (some ⟨go7, 0, none⟩) x5_2.length co7)) (rq_ HO_26.out) (Kd.R_typed HO_5.out) (by decide) hg); have n2_ := Aside0.mk ((by rw [hw]; exact below_set (HB.out) GB7.out : Below w.heap.size w w27)); clear HO_5; clear HO_26; clear HB; have HO_5 := n0_; have HO_26 := n1_; have HB := n2_; clear n0_ n1_ n2_; clear hg hw hp_))
                                    (try simp only [← hl5_2])
                                    go_roundg k2
                                    case measure => have := HK1.out; have := HK2.out; omega
                                    case rel => exact ⟨(y271), (wrap64 (x28_2 + 1)), (by first | rfl | (simp; done) | (simp [*]; done)), H', ⟨by have := HK1.out; have := HK2.out; omega⟩, ⟨by (try simp only [hl5_1]); (try simp only [hl5_2]); (with_reducible repeat (first | apply Kd.R_alloc | apply Kd.R_drewN | apply Kd.R_drew)); exact HO_5.out⟩, ⟨by (try simp only [hl5_1]); (try simp only [hl5_2]); (with_reducible repeat (first | apply Kd.R_alloc | apply Kd.R_drewN | apply Kd.R_drew)); exact HO_26.out⟩, ⟨bq_⟩⟩
                                  · rw [if_neg c24] at H
                                    exact absurd H (by simp)
                                · rw [if_neg c23] at H
                                  exact absurd H (by simp)
                              · rw [if_neg c22] at H
                                exact absurd H (by simp)
                            · rw [if_neg c21] at H
                              exact absurd H (by simp)
                          · rw [if_neg c20] at H
                            have c20b0 : decide (x28_2 < (t267.length : Int)) = false := decide_eq_false c20
                            (try (have c20hhl5_1 := c20b0; simp only [hl5_1] at c20hhl5_1))
                            (try (have c20hhl5_2 := c20b0; simp only [hl5_2] at c20hhl5_2))
                            clear c20
                            have H' := Aside0.mk H
                            clear H
                            go_wp2
                            (try simp only [← hl5_1, ← hl5_2])
                            go_roundg k2
                            case measure => have := HK1.out; have := HK2.out; omega
                            case rel => exact ⟨(x5_2), (wrap64 (x17_1 + 1)), (by first | rfl | (simp; done) | (simp [*]; done)), H', ⟨by have := HK1.out; have := HK2.out; omega⟩, ⟨by (try simp only [hl5_1]); (try simp only [hl5_2]); (with_reducible repeat (first | apply Kd.R_alloc | apply Kd.R_drewN | apply Kd.R_drew)); exact HO_5.out⟩, ⟨bq_⟩⟩
                    · replace c16 := Bool.eq_false_iff.mpr c16
                      subst c16
                      have H1 : (impl_reachable.l0 k1 l0 x5_1 (l0.length : Int) (wrap64 (x17_1 + 1))) = some r := by rw [if_neg (show ¬ (false = true) by decide)] at H; exact H
                      clear H
                      have H := H1
                      clear H1
                      have H' := Aside0.mk H
                      clear H
                      have p266 : 0 ≤ (x17_1 : Int) := of_decide_eq_true (by first | (with_reducible assumption) | assumption)
                      have q266 : x17_1 < (x5_1.length : Int) := of_decide_eq_true (by first | (with_reducible assumption) | assumption)
                      obtain ⟨ad266, e266, hx266_0⟩ := Kd.at_bool (Kd.R_reads' HO_5.out).2.2 x17_1 p266 q266
                      (try rw [← Nbq15.out] at hx266_0)
                      obtain rfl : (⟨go7, 0, none⟩ : Addr) = ad266 := (by injection e266)
                      (first | simp only [add_plain] at hx266_0 | simp only [add_at] at hx266_0 | simp only [Addr.add, Nat.zero_add] at hx266_0 | skip)
                      replace p266 := eq_true p266
                      replace q266 := eq_true q266
                      go_wp2
                      (try simp only [← hl5_1])
                      go_roundg k1
                      case measure => have := HK1.out; omega
                      case rel => exact ⟨(x5_1), (wrap64 (x17_1 + 1)), (by first | rfl | (simp; done) | (simp [*]; done)), H', ⟨by have := HK1.out; omega⟩, ⟨by (try simp only [hl5_1]); (with_reducible repeat (first | apply Kd.R_alloc | apply Kd.R_drewN | apply Kd.R_drew)); exact HO_5.out⟩, ⟨bq_⟩⟩
                  · rw [if_neg c14] at H
                    exact absurd H (by simp)
                · rw [if_neg c13] at H
                  exact absurd H (by simp)
              · rw [if_neg c12] at H
                have c12b0 : decide (x17_1 < (l0.length : Int)) = false := decide_eq_false c12
                (try (have c12hhl5_1 := c12b0; simp only [hl5_1] at c12hhl5_1))
                clear c12
                obtain rfl := Option.some.inj H
                go_wp2
                go_ret
                exact ⟨_, by first | rfl | (simp [errW_none, errW_some] <;> rfl) | (simp [*, errW_none, errW_some] <;> rfl), rq_ HO_5.out, bq_⟩
        · rw [if_neg c6] at H
          exact absurd H (by simp)
      · rw [if_neg c5] at H
        exact absurd H (by simp)
    · rw [if_neg c4] at H
      exact absurd H (by simp)
  · rw [if_neg c3] at H
    exact absurd H (by simp)

-- NOT PRINTED: function 51 (impl_list)

/-! ### impl_LeadersOf: function 26 -/
/-- The closure's reading: whether a step is there and begins a block. -/
def impl_LeadersOf.pr (l b : List Bool) (i : Int) : Option Bool := if 0 ≤ i then (if i < (l.length : Int) then (if rdOf false l i = true then (if i < (b.length : Int) then some (rdOf false b i) else none) else some false) else none) else none
set_option maxHeartbeats 4000000 in
set_option maxRecDepth 100000 in
theorem impl_LeadersOf.pr_calls (B0 B1 : Nat) (A : Option Addr) (c : Nat) (l : List Bool) (A2 : Option Addr) (c2 : Nat) (b : List Bool) (x : Int) (v : Bool) (w : World) (hB0 : w.heap[B0]? = some (.cells #[.slice A l.length c] 57 (0, 0))) (hB1 : w.heap[B1]? = some (.cells #[.slice A2 b.length c2] 57 (0, 0))) (hr : Kd.C Kd.bool w A l.length l) (hr2 : Kd.C Kd.bool w A2 b.length b) (h : impl_LeadersOf.pr l b x = some v) :
    Calls Try.prog 57 #[.int .i64 x, .pointer (some ⟨B0, 0, none⟩), .pointer (some ⟨B1, 0, none⟩)] w fun e w' => e = .returned (.bool v) ∧ Below w.heap.size w w' := by
  have HB := Aside0.mk (Below.refl w.heap.size w)
  unfold impl_LeadersOf.pr at h
  have hc0 : w.cell? ⟨B0, 0, none⟩ = some (.slice A l.length c) := (blk_cell hB0 0).trans rfl
  have hc1 : w.cell? ⟨B1, 0, none⟩ = some (.slice A2 b.length c2) := (blk_cell hB1 0).trans rfl
  clear hB0 hB1
  by_cases c5 : 0 ≤ x
  · rw [if_pos c5] at h
    by_cases c6 : x < (l.length : Int)
    · rw [if_pos c6] at h
      obtain ⟨ad, e101, hx⟩ := Kd.at_bool hr x c5 c6
      cases e101
      have p101 := eq_true c5
      have q101 := eq_true c6
      by_cases c7 : rdOf false l x = true
      · rw [if_pos c7] at h
        rw [c7] at hx
        by_cases c8 : x < (b.length : Int)
        · rw [if_pos c8] at h
          obtain ⟨ad2, e102, hx2⟩ := Kd.at_bool hr2 x c5 c8
          cases e102
          have q102 := eq_true c8
          obtain rfl := Option.some.inj h
          clear h c5 c6 c7 c8 hr hr2
          go_enter Try.func57, Try.ntmps57
          go_wp2
          go_ret
          exact ⟨by first | rfl | (simp; done) | (simp [*]; done), bq_⟩
        · rw [if_neg c8] at h; cases h
      · rw [if_neg c7] at h
        rw [Bool.eq_false_iff.mpr c7] at hx
        obtain rfl := Option.some.inj h
        clear h c5 c6 c7 hr hr2
        go_enter Try.func57, Try.ntmps57
        go_wp2
        go_ret
        exact ⟨by first | rfl | (simp; done) | (simp [*]; done), bq_⟩
    · rw [if_neg c6] at h; cases h
  · rw [if_neg c5] at h; cases h
/-- What stands while the row of begins is written: two boxes, what is there, the row, and that all older things are as they were. -/
def impl_LeadersOf.St (w W : World) (g4 g5 go : Nat) (A : Option Addr) (c cb : Nat) (y b : List Bool) : Prop :=
  W.heap[g4]? = some (.cells #[.slice A y.length c] 57 (0, 0)) ∧ W.heap[g5]? = some (.cells #[.slice (some ⟨go, 0, none⟩) b.length cb] 57 (0, 0)) ∧ Kd.R Kd.bool 4 W w.heap.size (fun k => k ≠ go) (.slice A y.length c) y ∧ Kd.R Kd.bool 4 W w.heap.size (fun _ => True) (.slice (some ⟨go, 0, none⟩) b.length cb) b ∧ Below w.heap.size w W ∧ g4 ≠ go ∧ g5 ≠ go
theorem impl_LeadersOf.St.below {w W W' : World} {g4 g5 go : Nat} {A : Option Addr} {c cb : Nat} {y b : List Bool} (h : impl_LeadersOf.St w W g4 g5 go A c cb y b) (hb : Below W.heap.size W W') : impl_LeadersOf.St w W' g4 g5 go A c cb y b :=
  ⟨blk_below h.1 hb, blk_below h.2.1 hb, Kd.R_below h.2.2.1 hb, Kd.R_below h.2.2.2.1 hb, below_step h.2.2.2.2.1 hb, h.2.2.2.2.2⟩
theorem impl_LeadersOf.St.go_le {w W : World} {g4 g5 go : Nat} {A : Option Addr} {c cb : Nat} {y b : List Bool} (h : impl_LeadersOf.St w W g4 g5 go A c cb y b) : w.heap.size ≤ go := Kd.R_base h.2.2.2.1 go rfl
theorem impl_LeadersOf.St.set {w W : World} {g4 g5 go : Nat} {A : Option Addr} {c cb : Nat} {y b : List Bool} (h : impl_LeadersOf.St w W g4 g5 go A c cb y b) (i : Int) : impl_LeadersOf.St w (W.setCell ⟨go, i.toNat, none⟩ (.bool true)) g4 g5 go A c cb y (b.set i.toNat true) := by
  have e : (b.set i.toNat true).length = b.length := List.length_set ..
  unfold impl_LeadersOf.St
  rw [e]
  exact ⟨blk_far h.1 h.2.2.2.2.2.1 _, blk_far h.2.1 h.2.2.2.2.2.2 _, Kd.R_far h.2.2.1 (p := ⟨go, i.toNat, none⟩) (fun k hk => hk) _, (Kd.R_putg h.2.2.2.1 i true).1, below_set h.2.2.2.2.1 h.go_le, h.2.2.2.2.2⟩
theorem impl_LeadersOf.St.cell {w W : World} {g4 g5 go : Nat} {A : Option Addr} {c cb : Nat} {y b : List Bool} (h : impl_LeadersOf.St w W g4 g5 go A c cb y b) (i : Int) (h0 : 0 ≤ i) (h1 : i < (b.length : Int)) : W.cell? ⟨go, i.toNat, none⟩ = some (.bool (rdOf false b i)) ∧ W.frozen? ⟨go, i.toNat, none⟩ = false := Kd.R_celln false h.2.2.2.1 i h0 h1
/-- The row is laid down, its box not yet. -/
theorem impl_LeadersOf.St.mk' {w W W1 W2 : World} {g4 g5 go : Nat} {A : Option Addr} {c cb n : Nat} {y b : List Bool} (h4 : W1.heap[g4]? = some (.cells #[.slice A y.length c] 57 (0, 0))) (hr : Kd.R Kd.bool 4 W1 w.heap.size (fun _ => True) (.slice A y.length c) y) (hr2 : Kd.R Kd.bool 4 W W1.heap.size (fun _ => True) (.slice (some ⟨go, 0, none⟩) b.length cb) b) (hb : Below w.heap.size w W1) (hk : Below W1.heap.size W1 W) (hk2 : Below W.heap.size W W2) (h5 : W2.heap[g5]? = some (.cells #[.slice (some ⟨go, 0, none⟩) b.length cb] 57 (0, 0))) (hg5 : W.heap.size ≤ g5) : impl_LeadersOf.St w W2 g4 g5 go A c cb y b :=
  ⟨blk_below (blk_below h4 hk) hk2, h5, Kd.R_below (Kd.R_mono (Kd.R_elder' hr (Kd.R_base hr2) hk) (fun k hk => by rintro rfl; exact hk.2 rfl)) hk2, Kd.R_lower (Kd.R_below hr2 hk2) (below_size hb), below_step (below_step hb hk) hk2, Nat.ne_of_lt (Nat.lt_of_lt_of_le (blk_lt h4) (Kd.R_base hr2 go rfl)), fun e => absurd (Kd.R_lt hr2 go rfl) (by omega)⟩
def impl_LeadersOf.lst : Nat → (Int → Option Bool) → Int → List Int → Int → Option (List Int)
  | 0, _, _, _, _ => none
  | k + 1, p, many, out, i => if i < many then ((p i).bind fun t => (if t = true then (if out.length < 17592186044416 then impl_LeadersOf.lst k p many (out ++ [i]) (wrap64 (i + 1)) else none) else impl_LeadersOf.lst k p many out (wrap64 (i + 1)))) else some out
theorem impl_LeadersOf.lst_mono : ∀ k p p' m o i, (∀ i, LeO (p i) (p' i)) → LeO (impl_LeadersOf.lst k p m o i) (impl_LeadersOf.lst (k + 1) p' m o i)
  | 0 => fun _ _ _ _ _ _ r h => by simp [impl_LeadersOf.lst] at h
  | k + 1 => by
    have ih0 := impl_LeadersOf.lst_mono k
    intro p p' m o i hp
    unfold impl_LeadersOf.lst
    exact LeO.ite (LeO.bind (hp _) (fun _ => LeO.ite (LeO.ite (ih0 _ _ _ _ _ hp) (LeO.none _)) (ih0 _ _ _ _ _ hp))) (LeO.refl _)
set_option maxHeartbeats 8000000 in
set_option maxRecDepth 100000 in
theorem impl_LeadersOf.lst_calls (k : Nat) (B0 B1 : Nat) (p : Int → Option Bool) (many : Int) (r : List Int) (w : World)
    (hp : ∀ (W : World) (x : Int) (v : Bool), Below w.heap.size w W → p x = some v → Calls Try.prog 57 #[.int .i64 x, .pointer (some ⟨B0, 0, none⟩), .pointer (some ⟨B1, 0, none⟩)] W fun e w' => e = .returned (.bool v) ∧ Below W.heap.size W w')
    (h : impl_LeadersOf.lst k p many [] 0 = some r) :
    Calls Try.prog 51 #[.int .i64 many, .func (.func 57) #[] #[.pointer (some ⟨B0, 0, none⟩), .pointer (some ⟨B1, 0, none⟩)]] w fun e w' => ∃ v0_ : Value, e = .returned v0_ ∧ Kd.R (Kd.int .i64) 3 w' w.heap.size (fun _ => True) v0_ r ∧ Below w.heap.size w w' := by
  have H' := Aside0.mk h
  clear h
  have HB := Aside0.mk (Below.refl w.heap.size w)
  have HP := Aside0.mk hp
  clear hp
  have eg := fun args w => enters_ (P := Try.prog) Try.func57 (by kernel_rfl) rfl args w
  go_enter Try.func51, Try.ntmps51
  go_wp2
  go_loopg [5, 8] k (fun kq v5 v8 w' => ∃ (o : List Int) (x : Int), v8 = .int .i64 x ∧ Aside0 (impl_LeadersOf.lst kq p many o x = some r) ∧ Aside0 (kq ≤ k) ∧ Aside0 (Kd.R (Kd.int .i64) 3 w' w.heap.size (fun _ => True) v5 o) ∧ Aside0 (Below w.heap.size w w'))
  case atStart => exact ⟨[], (0), (by first | rfl | (simp; done) | (simp [*]; done)), H', ⟨Nat.le_refl _⟩, ⟨Kd.R_nil _ _ _ _ _⟩, ⟨bq_⟩⟩
  case round =>
    clear H' HB
    obtain ⟨o, x, rfl, HA, HK1, HO, HB⟩ := hrel
    cases gk with
    | zero => exact absurd HA.out (by simp [impl_LeadersOf.lst])
    | succ k1 =>
      have H := HA.out
      clear HA
      simp only [impl_LeadersOf.lst] at H
      by_cases c4 : x < many
      · rw [if_pos c4] at H
        have c4b0 : decide (x < many) = true := decide_eq_true c4
        clear c4
        obtain ⟨t, A70, H⟩ := Option.bind_eq_some_iff.mp H
        have A7 := Aside0.mk A70
        clear A70
        by_cases c8 : t = true
        · subst c8
          rw [if_pos rfl] at H
          by_cases c12 : o.length < 17592186044416
          · rw [if_pos c12] at H
            have LMc12 := Aside0.mk c12
            clear c12
            have H' := Aside0.mk H
            clear H
            go_wp2_with (first | (go_at_call 57; refine (HP.out _ x true (bq_) A7.out).mono ?_; rintro e w6 ⟨rfl, hb⟩; have n0_ := Aside0.mk (below_step (bq_) hb); have n1_ := Aside0.mk (Kd.R_below (rq_ HO.out) hb); clear HB HO; have HB := n0_; have HO := n1_; clear n0_ n1_ hb) | ((with_reducible refine gate_builtin (b := .append) (xs := #[.tmp 14, .tmp 16]) rfl ?_); at_builtin; refine Kd.R_append (Kd.int .i64) (w0 := w) w.heap.size rfl (.tmp 14) (.tmp 16) 30 3 (.int .i64 0) 8 rfl Try.underlying30 info3 rfl (by decide) (by omega) u5 o x [.int .i64 x] (fun _ => True) (fun _ => False) rfl rfl ?aP (fun _ hk => hk.elim) ?aF ?aO ?aB ?aS ?aL ?_; (case aP => exact rfl); (case aB => exact (bq_)); (case aF => exact (fun _ _ => trivial)); (case aO => exact (rq_ HO.out)); (case aS => exact (below_size (bq_))); (case aL => have := LMc12.out; omega); intro v121 w13 ho hb hg hat; have n0_ := Aside0.mk hb; have n1_ := Aside0.mk ho; clear HB HO; have HB := n0_; have HO := n1_; clear n0_ n1_ ho hb hg hat))
            go_roundg k1
            case measure => have := HK1.out; omega
            case rel => exact ⟨_, (wrap64 (x + 1)), (by first | rfl | (simp; done) | (simp [*]; done)), H', ⟨by have := HK1.out; omega⟩, ⟨rq_ HO.out⟩, ⟨bq_⟩⟩
          · rw [if_neg c12] at H
            exact absurd H (by simp)
        · replace c8 := Bool.eq_false_iff.mpr c8
          subst c8
          rw [if_neg (by simp)] at H
          have H' := Aside0.mk H
          clear H
          go_wp2_with (go_at_call 57; refine (HP.out _ x false (bq_) A7.out).mono ?_; rintro e w6 ⟨rfl, hb⟩; have n0_ := Aside0.mk (below_step (bq_) hb); have n1_ := Aside0.mk (Kd.R_below (rq_ HO.out) hb); clear HB HO; have HB := n0_; have HO := n1_; clear n0_ n1_ hb)
          go_roundg k1
          case measure => have := HK1.out; omega
          case rel => exact ⟨_, (wrap64 (x + 1)), (by first | rfl | (simp; done) | (simp [*]; done)), H', ⟨by have := HK1.out; omega⟩, ⟨rq_ HO.out⟩, ⟨bq_⟩⟩
      · rw [if_neg c4] at H
        have c4b0 : decide (x < many) = false := decide_eq_false c4
        clear c4
        obtain rfl := Option.some.inj H
        clear H
        go_wp2
        go_ret
        exact ⟨_, by first | rfl | (simp; done) | (simp [*]; done), rq_ HO.out, bq_⟩
def impl_LeadersOf.l0 : Nat → List S51 → List Bool → List Bool → Int → Option (List Bool)
  | 0, _, _, _, _ => none
  | k + 1, l, y, b, x => if x < (l.length : Int) then (if 0 ≤ x then (if x < (y.length : Int) then (if rdOf false y x = true then ((impl_Step_jumps.f (rd_T51 l x).f0 (rd_T51 l x).f1 (rd_T51 l x).f2 (rd_T51 l x).f3 (rd_T51 l x).f4 (rd_T51 l x).f5).bind fun t => (if t = true then (if 0 ≤ wrap64 (x + 1) then (if wrap64 (x + 1) < (b.length : Int) then (if 0 ≤ wrap64 (wrap64 (x + (rd_T51 l x).f5) + 1) then (if wrap64 (wrap64 (x + (rd_T51 l x).f5) + 1) < (b.length : Int) then impl_LeadersOf.l0 k l y ((b.set (wrap64 (x + 1)).toNat true).set (wrap64 (wrap64 (x + (rd_T51 l x).f5) + 1)).toNat true) (wrap64 (x + 1)) else none) else none) else none) else none) else impl_LeadersOf.l0 k l y b (wrap64 (x + 1)))) else impl_LeadersOf.l0 k l y b (wrap64 (x + 1))) else none) else none) else some b
theorem impl_LeadersOf.l0_mono : ∀ k l y b x, LeO (impl_LeadersOf.l0 k l y b x) (impl_LeadersOf.l0 (k + 1) l y b x)
  | 0 => fun _ _ _ _ r h => by simp [impl_LeadersOf.l0] at h
  | k + 1 => by
    have ih0 := impl_LeadersOf.l0_mono k
    intro l y b x
    unfold impl_LeadersOf.l0
    exact LeO.ite (LeO.ite (LeO.ite (LeO.ite (LeO.bind (LeO.refl _) (fun _ => LeO.ite (LeO.ite (LeO.ite (LeO.ite (LeO.ite (ih0 _ _ _ _) (LeO.none _)) (LeO.none _)) (LeO.none _)) (LeO.none _)) (ih0 _ _ _ _))) (ih0 _ _ _ _)) (LeO.none _)) (LeO.none _)) (LeO.refl _)
def impl_LeadersOf.f (k : Nat) (l0 : List (S51)) : Option (List Int × Bool) := (impl_GoodProgram.f k l0).bind fun t => if t = true then ((impl_reachable.f k l0 0).bind fun y => if 0 < l0.length ∧ l0.length ≤ 281474976710656 then ((impl_LeadersOf.l0 k l0 y ((List.replicate l0.length false).set 0 true) 0).bind fun b => (impl_LeadersOf.lst k (impl_LeadersOf.pr y b) (l0.length : Int) [] 0).bind fun o => some (o, true)) else none) else some (([] : List Int), false)
theorem impl_LeadersOf.mono : ∀ a0 k, LeO (impl_LeadersOf.f k a0) (impl_LeadersOf.f (k + 1) a0) := by
  intro a0 k
  unfold impl_LeadersOf.f
  exact LeO.bind (impl_GoodProgram.mono _ _) (fun _ => LeO.ite (LeO.bind (impl_reachable.mono _ _ _) (fun _ => LeO.ite (LeO.bind (impl_LeadersOf.l0_mono _ _ _ _ _) (fun _ => LeO.bind (impl_LeadersOf.lst_mono _ _ _ _ _ _ (fun _ => LeO.refl _)) (fun _ => LeO.refl _))) (LeO.none _))) (LeO.refl _))
set_option maxHeartbeats 8000000 in
set_option maxRecDepth 100000 in
theorem impl_LeadersOf.calls (k : Nat) (A0 : Option Addr) (c0 : Nat) (l0 : List (S51)) (r1 : List Int) (r2 : Bool) (w : World) (hr0 : Kd.C k51 w A0 l0.length l0) (hc0 : l0.length ≤ c0) (h : impl_LeadersOf.f k l0 = some (r1, r2)) :
    Calls Try.prog 26 #[.slice A0 l0.length c0] w fun e w' => ∃ v0_ : Value, e = .returned (.tuple #[v0_, .bool r2]) ∧ Kd.R (Kd.int .i64) 3 w' w.heap.size (fun _ => True) v0_ r1 ∧ Below w.heap.size w w' := by
  have HR0 := Aside0.mk hr0
  have HC0 := Aside0.mk hc0
  clear hr0 hc0
  obtain ⟨t, A70, H⟩ := Option.bind_eq_some_iff.mp h
  have A7 := Aside0.mk A70
  clear A70 h
  have HB := Aside0.mk (Below.refl w.heap.size w)
  by_cases c8 : t = true
  · subst c8
    rw [if_pos rfl] at H
    obtain ⟨y, A80, H1⟩ := Option.bind_eq_some_iff.mp H
    have A8 := Aside0.mk A80
    clear A80 H
    by_cases hl : 0 < l0.length ∧ l0.length ≤ 281474976710656
    · rw [if_pos hl] at H1
      have HL := Aside0.mk hl
      clear hl
      obtain ⟨b1, A60, H2⟩ := Option.bind_eq_some_iff.mp H1
      clear H1
      obtain ⟨o, A90, H⟩ := Option.bind_eq_some_iff.mp H2
      clear H2
      simp only [Option.some.injEq, Prod.mk.injEq] at H
      obtain ⟨rfl, rfl⟩ := H
      obtain ⟨b0, hb0⟩ : ∃ b_, b_ = List.replicate l0.length false := ⟨_, rfl⟩
      rw [← hb0] at A60
      have EL := Aside0.mk (show b0.length = l0.length from by rw [hb0, List.length_replicate])
      have EB := Aside0.mk hb0
      have H' := Aside0.mk A60
      have A9 := Aside0.mk A90
      clear hb0 A60 A90
      go_enter Try.func26, Try.ntmps26
      go_wp2_with (first | ((with_reducible refine gate_dst (N := 4) rfl ?_); refine boxq_ (N := 4) (cs := #[.slice none 0 0]) (t := 57) ?_; intro g4 hg w4 hbox hb; have HK4 := Aside0.mk hb; have GE4 := Aside0.mk (show _ ≤ g4 from Nat.le_of_eq hg.symm); have BK4 := Aside0.mk hbox; clear hb hbox hg; have hcz0 := cq_ BK4.out 0 ((.slice none 0 0)); have hfz0 := blk_frozen BK4.out 0) | ((with_reducible refine gate_store (t := 57) (p := 4) rfl ?_); refine store_event (t := 57) (p := 4) (v := ?vo_w6) (w1 := (w4.setCell ⟨g4, 0, none⟩ (.slice Ao y.length co))) ?hg ?ho ?hn ?hr ?_; (case ho => rfl); (case hg => rfl); (case hn => rfl); (case hr => first | (go_simp; done) | (go_simp; rfl)); intro w6 hw; have n0_ := Aside0.mk (show Below _ _ w6 from by rw [hw]; exact below_set (v := (.slice Ao y.length co)) HK4.out GE4.out); have n1_ := Aside0.mk (show w6.heap[g4]? = some (.cells #[.slice Ao y.length co] 57 (0, 0)) from by rw [hw]; exact blk_put (cs := #[.slice none 0 0]) BK4.out 0 _ rfl); have n2_ := Aside0.mk (Kd.R_below HO.out n0_.out); have n3_ := Aside0.mk (below_step (bq_) n0_.out); clear HB HO BK4 HK4 GE4 hcz0 hfz0 hw n0_; have HB := n3_; have BK4 := n1_; have HO := n2_; clear n1_ n2_ n3_) | ((with_reducible refine gate_dst (N := 15) rfl ?_); refine Kd.R_make Kd.bool _ 4 rfl (N := 15) rfl 57 _ _ rfl (l0.length : Int) rfl rfl Try.underlying57 (.bool false) 1 info4 rfl (by decide) (by omega) false (ok := fun _ => True) (okp := fun _ => True) rfl (fun _ hk => hk) trivial (Int.natCast_nonneg _) (by have := HL.out.2; simp only [Int.toNat_natCast]; omega) (Below.refl _ _) (Nat.le_refl _) ?_; intro v7 w7 ho hb hg_ hnew_; clear hg_ hnew_; simp only [Int.toNat_natCast] at ho; rw [← EB.out] at ho; obtain ⟨go, cb, eo, gb_, gl_, cl_⟩ := Kd.R_form ho (by rw [EL.out]; exact HL.out.1); clear gb_ gl_ cl_; subst eo; have HO2 := Aside0.mk ho; have HKM := Aside0.mk hb; clear ho hb) | ((with_reducible refine gate_dst (N := 5) rfl ?_); refine boxq_ (N := 5) (cs := #[.slice none 0 0]) (t := 57) ?_; intro g5 hg w8 hbox hb; have HK5 := Aside0.mk hb; have GE5 := Aside0.mk (show _ ≤ g5 from Nat.le_of_eq hg.symm); have BK5 := Aside0.mk hbox; clear hb hbox hg; have hcz0 := cq_ BK5.out 0 ((.slice none 0 0)); have hfz0 := blk_frozen BK5.out 0) | ((with_reducible refine gate_store (t := 57) (p := 5) rfl ?_); refine store_event (t := 57) (p := 5) (v := ?vo_w9) (w1 := (w8.setCell ⟨g5, 0, none⟩ (.slice (some ⟨go, 0, none⟩) b0.length cb))) ?hg ?ho ?hn ?hr ?_; (case ho => rfl); (case hg => rfl); (case hn => rfl); (case hr => first | (go_simp; done) | (go_simp; rfl)); intro w9 hw; have n0_ := Aside0.mk (show Below _ _ w9 from by rw [hw]; exact below_set (v := (.slice (some ⟨go, 0, none⟩) b0.length cb)) HK5.out GE5.out); have n1_ := Aside0.mk (show w9.heap[g5]? = some (.cells #[.slice (some ⟨go, 0, none⟩) b0.length cb] 57 (0, 0)) from by rw [hw]; exact blk_put (cs := #[.slice none 0 0]) BK5.out 0 _ rfl); have HS := Aside0.mk (impl_LeadersOf.St.mk' (n := 0) BK4.out HO.out HO2.out (bq_) HKM.out n0_.out n1_.out GE5.out); clear HB HO HO2 BK4 BK5 HK5 GE5 HKM hcz0 hfz0 hw n0_ n1_; have hcz := (blk_cell HS.out.2.1 0).trans rfl; have h00 := HS.out.cell 0 (by omega) (by rw [EL.out]; have := HL.out.1; omega); have hcg := h00.1; have hfg := h00.2; clear h00; simp only [Int.toNat_zero] at hcg hfg; have pb := eq_true (show 0 < b0.length from by rw [EL.out]; exact HL.out.1)) | ((with_reducible refine gate_store (t := 4) (p := 17) rfl ?_); refine store_event (t := 4) (p := 17) (v := ?vo_w10) (w1 := (w9.setCell ⟨go, 0, none⟩ (.bool true))) ?hg ?ho ?hn ?hr ?_; (case ho => rfl); (case hg => rfl); (case hn => rfl); (case hr => first | (go_simp; done) | (go_simp; rfl)); intro w10 hw; have n0_ := Aside0.mk (show impl_LeadersOf.St w w10 g4 g5 go Ao co cb y (b0.set 0 true) from by rw [hw]; exact HS.out.set 0); clear HS hw hcz hcg hfg; have HS := n0_; clear n0_) | (go_at_call 49; refine (impl_GoodProgram.calls k _ _ l0 true _ (Kd.C_below HR0.out (bq_)) HC0.out A7.out).mono ?_; rintro e w3 ⟨rfl, hb⟩; have n0_ := Aside0.mk (below_step (bq_) hb); clear HB hb; have HB := n0_; clear n0_) | (go_at_call 50; refine (impl_reachable.calls k _ _ l0 0 y _ (Kd.C_below HR0.out (bq_)) HC0.out A8.out).mono ?_; rintro e w5 ⟨v0, rfl, ho, hb⟩; obtain ⟨Ao, co, eo⟩ := Kd.R_slice ho; subst eo; have HO := Aside0.mk (Kd.R_lower ho (below_size (bq_))); have n0_ := Aside0.mk (below_step (bq_) hb); clear HB ho hb; have HB := n0_; clear n0_))
      go_loopg [20] k (fun kq v20 w' => ∃ (b : List Bool) (x : Int), v20 = .int .i64 x ∧ Aside0 (impl_LeadersOf.l0 kq l0 y b x = some b1) ∧ Aside0 (kq ≤ k) ∧ Aside0 (impl_LeadersOf.St w w' g4 g5 go Ao co cb y b))
      case atStart => exact ⟨_, _, (by first | rfl | (simp; done) | (simp [*]; done)), H', ⟨Nat.le_refl _⟩, ⟨by repeat (first | (with_reducible exact HS.out) | exact HS.out.below (by repeat (first | exact Below.refl _ _ | apply below_drew1 | apply below_alloc))) ⟩⟩
      case round =>
        clear H' HS pb
        obtain ⟨b, x, rfl, HA, HK1, HS⟩ := hrel
        cases gk with
        | zero => exact absurd HA.out (by simp [impl_LeadersOf.l0])
        | succ k1 =>
          have H := HA.out
          clear HA
          simp only [impl_LeadersOf.l0] at H
          by_cases c4 : x < (l0.length : Int)
          · rw [if_pos c4] at H
            have c4b0 : decide (x < (l0.length : Int)) = true := decide_eq_true c4
            by_cases c5 : 0 ≤ x
            · rw [if_pos c5] at H
              by_cases c6 : x < (y.length : Int)
              · rw [if_pos c6] at H
                obtain ⟨ad, e101, hx0, hx1, hx2, hx3, hx4, hx5⟩ := at_T51 HR0.out x c5 c4
                cases e101
                replace hx0 := (HS.out.2.2.2.2.1.cell (World.block_lt_of_cell? w _ hx0)).trans hx0
                replace hx1 := (HS.out.2.2.2.2.1.cell (World.block_lt_of_cell? w _ hx1)).trans hx1
                replace hx2 := (HS.out.2.2.2.2.1.cell (World.block_lt_of_cell? w _ hx2)).trans hx2
                replace hx3 := (HS.out.2.2.2.2.1.cell (World.block_lt_of_cell? w _ hx3)).trans hx3
                replace hx4 := (HS.out.2.2.2.2.1.cell (World.block_lt_of_cell? w _ hx4)).trans hx4
                replace hx5 := (HS.out.2.2.2.2.1.cell (World.block_lt_of_cell? w _ hx5)).trans hx5
                have p101 := eq_true c5
                have q101 := eq_true c4
                have p102 := c5
                have q102 := c6
                clear c4 c5 c6
                by_cases c7 : rdOf false y x = true
                · rw [if_pos c7] at H
                  have NH := Aside0.mk c7
                  clear c7
                  obtain ⟨t, AJ0, H⟩ := Option.bind_eq_some_iff.mp H
                  have AJ := Aside0.mk AJ0
                  clear AJ0
                  by_cases c8 : t = true
                  · subst c8
                    rw [if_pos rfl] at H
                    by_cases k10 : 0 ≤ (wrap64 (x + 1))
                    · rw [if_pos k10] at H
                      by_cases k20 : (wrap64 (x + 1)) < (b.length : Int)
                      · rw [if_pos k20] at H
                        by_cases k30 : 0 ≤ (wrap64 (wrap64 (x + (rd_T51 l0 x).f5) + 1))
                        · rw [if_pos k30] at H
                          by_cases k40 : (wrap64 (wrap64 (x + (rd_T51 l0 x).f5) + 1)) < (b.length : Int)
                          · rw [if_pos k40] at H
                            have H' := Aside0.mk H
                            have m1 := Aside0.mk k10
                            have m2 := Aside0.mk k20
                            have m3 := Aside0.mk k30
                            have m4 := Aside0.mk k40
                            replace k10 := eq_true k10
                            replace k20 := eq_true k20
                            replace k30 := eq_true k30
                            replace k40 := eq_true k40
                            clear H
                            go_wp2_with (first | ((with_reducible refine gate_dst (N := 7) rfl ?_); refine boxq_ (N := 7) (cs := #[.int .i64 0, .int .i64 0, .int .i64 0, .int .i64 0, .int .i64 0, .int .i64 0]) (t := 51) ?_; intro g7 hg w7_ hbox hb; have HK7 := Aside0.mk hb; have GE7 := Aside0.mk (show _ ≤ g7 from Nat.le_of_eq hg.symm); have BK7 := Aside0.mk hbox; clear hb hbox hg; have hcz0 := cq_ BK7.out 0 ((.int .i64 0)); have hcz1 := cq_ BK7.out 1 ((.int .i64 0)); have hcz2 := cq_ BK7.out 2 ((.int .i64 0)); have hcz3 := cq_ BK7.out 3 ((.int .i64 0)); have hcz4 := cq_ BK7.out 4 ((.int .i64 0)); have hcz5 := cq_ BK7.out 5 ((.int .i64 0)); have hfz0 := blk_frozen BK7.out 0; have hfz1 := blk_frozen BK7.out 1; have hfz2 := blk_frozen BK7.out 2; have hfz3 := blk_frozen BK7.out 3; have hfz4 := blk_frozen BK7.out 4; have hfz5 := blk_frozen BK7.out 5) | ((with_reducible refine gate_store (t := 51) (p := 7) rfl ?_); refine store_event (t := 51) (p := 7) (v := ?vo_w8) (w1 := ((((((w7_.setCell ⟨g7, 0, none⟩ (.int .i64 (rd_T51 l0 x).f0)).setCell ⟨g7, 1, none⟩ (.int .i64 (rd_T51 l0 x).f1)).setCell ⟨g7, 2, none⟩ (.int .i64 (rd_T51 l0 x).f2)).setCell ⟨g7, 3, none⟩ (.int .i64 (rd_T51 l0 x).f3)).setCell ⟨g7, 4, none⟩ (.int .i64 (rd_T51 l0 x).f4)).setCell ⟨g7, 5, none⟩ (.int .i64 (rd_T51 l0 x).f5))) ?hg ?ho ?hn ?hr ?_; (case ho => rfl); (case hg => rfl); (case hn => rfl); (case hr => first | (go_simp; done) | (go_simp; rfl)); intro w8 hw; have n0_ := Aside0.mk (show Below _ _ w8 from by rw [hw]; exact below_set (j := 5) (v := (.int .i64 (rd_T51 l0 x).f5)) (below_set (j := 4) (v := (.int .i64 (rd_T51 l0 x).f4)) (below_set (j := 3) (v := (.int .i64 (rd_T51 l0 x).f3)) (below_set (j := 2) (v := (.int .i64 (rd_T51 l0 x).f2)) (below_set (j := 1) (v := (.int .i64 (rd_T51 l0 x).f1)) (below_set (j := 0) (v := (.int .i64 (rd_T51 l0 x).f0)) (HK7.out) GE7.out) GE7.out) GE7.out) GE7.out) GE7.out) GE7.out); have n1_ := Aside0.mk (show w8.heap[g7]? = some (.cells #[.int .i64 (rd_T51 l0 x).f0, .int .i64 (rd_T51 l0 x).f1, .int .i64 (rd_T51 l0 x).f2, .int .i64 (rd_T51 l0 x).f3, .int .i64 (rd_T51 l0 x).f4, .int .i64 (rd_T51 l0 x).f5] 51 (0, 0)) from by rw [hw]; exact blk_put (cs := #[.int .i64 (rd_T51 l0 x).f0, .int .i64 (rd_T51 l0 x).f1, .int .i64 (rd_T51 l0 x).f2, .int .i64 (rd_T51 l0 x).f3, .int .i64 (rd_T51 l0 x).f4, .int .i64 0]) (cs' := #[.int .i64 (rd_T51 l0 x).f0, .int .i64 (rd_T51 l0 x).f1, .int .i64 (rd_T51 l0 x).f2, .int .i64 (rd_T51 l0 x).f3, .int .i64 (rd_T51 l0 x).f4, .int .i64 (rd_T51 l0 x).f5]) (blk_put (cs := #[.int .i64 (rd_T51 l0 x).f0, .int .i64 (rd_T51 l0 x).f1, .int .i64 (rd_T51 l0 x).f2, .int .i64 (rd_T51 l0 x).f3, .int .i64 0, .int .i64 0]) (cs' := #[.int .i64 (rd_T51 l0 x).f0, .int .i64 (rd_T51 l0 x).f1, .int .i64 (rd_T51 l0 x).f2, .int .i64 (rd_T51 l0 x).f3, .int .i64 (rd_T51 l0 x).f4, .int .i64 0]) (blk_put (cs := #[.int .i64 (rd_T51 l0 x).f0, .int .i64 (rd_T51 l0 x).f1, .int .i64 (rd_T51 l0 x).f2, .int .i64 0, .int .i64 0, .int .i64 0]) (cs' := #[.int .i64 (rd_T51 l0 x).f0, .int .i64 (rd_T51 l0 x).f1, .int .i64 (rd_T51 l0 x).f2, .int .i64 (rd_T51 l0 x).f3, .int .i64 0, .int .i64 0]) (blk_put (cs := #[.int .i64 (rd_T51 l0 x).f0, .int .i64 (rd_T51 l0 x).f1, .int .i64 0, .int .i64 0, .int .i64 0, .int .i64 0]) (cs' := #[.int .i64 (rd_T51 l0 x).f0, .int .i64 (rd_T51 l0 x).f1, .int .i64 (rd_T51 l0 x).f2, .int .i64 0, .int .i64 0, .int .i64 0]) (blk_put (cs := #[.int .i64 (rd_T51 l0 x).f0, .int .i64 0, .int .i64 0, .int .i64 0, .int .i64 0, .int .i64 0]) (cs' := #[.int .i64 (rd_T51 l0 x).f0, .int .i64 (rd_T51 l0 x).f1, .int .i64 0, .int .i64 0, .int .i64 0, .int .i64 0]) (blk_put (cs := #[.int .i64 0, .int .i64 0, .int .i64 0, .int .i64 0, .int .i64 0, .int .i64 0]) (cs' := #[.int .i64 (rd_T51 l0 x).f0, .int .i64 0, .int .i64 0, .int .i64 0, .int .i64 0, .int .i64 0]) (BK7.out) 0 (.int .i64 (rd_T51 l0 x).f0) rfl) 1 (.int .i64 (rd_T51 l0 x).f1) rfl) 2 (.int .i64 (rd_T51 l0 x).f2) rfl) 3 (.int .i64 (rd_T51 l0 x).f3) rfl) 4 (.int .i64 (rd_T51 l0 x).f4) rfl) 5 (.int .i64 (rd_T51 l0 x).f5) rfl); have n2_ := Aside0.mk (HS.out.below n0_.out); have n3_ := Aside0.mk (Nat.ne_of_gt (Nat.lt_of_lt_of_le (Kd.R_lt HS.out.2.2.2.1 go rfl) GE7.out)); clear HS BK7 HK7 GE7 n0_ hw hcz0 hfz0 hx0 hcz1 hfz1 hx1 hcz2 hfz2 hx2 hcz3 hfz3 hx3 hcz4 hfz4 hx4 hcz5 hfz5 hx5; have HS := n2_; have BK7 := n1_; have N7 := n3_; clear n1_ n2_ n3_; have hcy := (blk_cell HS.out.1 0).trans rfl; have hcx := (blk_cell HS.out.2.1 0).trans rfl; have hcv0 := (blk_cell BK7.out 0).trans rfl; have hcv1 := (blk_cell BK7.out 1).trans rfl; have hcv2 := (blk_cell BK7.out 2).trans rfl; have hcv3 := (blk_cell BK7.out 3).trans rfl; have hcv4 := (blk_cell BK7.out 4).trans rfl; have hcv5 := (blk_cell BK7.out 5).trans rfl; obtain ⟨ad2, e102, hx⟩ := Kd.at_bool (Kd.R_reads' HS.out.2.2.1).2.2 x p102 q102; cases e102; rw [NH.out] at hx; replace p102 := eq_true p102; replace q102 := eq_true q102) | (go_at_call 56; refine (impl_Step_jumps.calls (rd_T51 l0 x).f0 (rd_T51 l0 x).f1 (rd_T51 l0 x).f2 (rd_T51 l0 x).f3 (rd_T51 l0 x).f4 (rd_T51 l0 x).f5 true _ AJ.out).mono ?_; rintro e w9 ⟨rfl, hb⟩; have n1_ := Aside0.mk (blk_below BK7.out hb); have n2_ := Aside0.mk (HS.out.below hb); clear HS BK7 hb hx hcy hcx hcv0 hcv1 hcv2 hcv3 hcv4 hcv5; have HS := n2_; have BK7 := n1_; clear n1_ n2_; have hcy := (blk_cell HS.out.1 0).trans rfl; have hcx := (blk_cell HS.out.2.1 0).trans rfl; have hcv0 := (blk_cell BK7.out 0).trans rfl; have hcv1 := (blk_cell BK7.out 1).trans rfl; have hcv2 := (blk_cell BK7.out 2).trans rfl; have hcv3 := (blk_cell BK7.out 3).trans rfl; have hcv4 := (blk_cell BK7.out 4).trans rfl; have hcv5 := (blk_cell BK7.out 5).trans rfl))
                            refine start_ (n := 13) (S := fun w' => w'.cell? ⟨g5, 0, none⟩ = some (.slice (some ⟨go, 0, none⟩) b.length cb) ∧ w'.cell? ⟨g7, 5, none⟩ = some (.int .i64 (rd_T51 l0 x).f5)) (ds := [12]) #[false, false, false, false, false, false, false, false, false, false, false, false, false] (by kernel_rfl) rfl rfl ⟨hcx, hcv5⟩ (fun hHeld => ?_)
                            have n2_ := Aside0.mk (HS.out.below (below_drew (Below.refl _ _)))
                            have n1_ := Aside0.mk (blk_drew BK7.out)
                            clear HS BK7 hcy hcx hcv0 hcv1 hcv2 hcv3 hcv4 hcv5
                            have HS := n2_
                            have BK7 := n1_
                            clear n1_ n2_
                            generalize World.drew _ = w11 at HS BK7 hHeld ⊢
                            refine take_ (i := 0) (N := some 33) (v := ?_) (a' := ?_) #[true, false, false, false, false, false, false, false, false, false, false, false, false] rfl rfl (by kernel_rfl) (fun _ _ _ h => h) (Or.inl ⟨by rfl, ?_⟩) hHeld ?_ ?_
                            rotate_left
                            · rintro w' ⟨s0, s1⟩
                              go_simp
                              with_reducible rfl
                            rotate_left
                            · simp only [Act.put, List.setIfInBounds_toArray, List.set_cons_zero, List.set_cons_succ, i64_w, i32_w]
                              rfl
                            refine pure_ (i := 1) (N := some 34) (v := ?_) (a' := ?_) #[true, true, false, false, false, false, false, false, false, false, false, false, false] rfl rfl (by kernel_rfl) (fun _ _ _ h => h) (Or.inl ⟨by rfl, ?_⟩) ?_ ?_
                            rotate_left
                            · intro w'
                              go_simp
                              with_reducible rfl
                            rotate_left
                            · simp only [Act.put, List.setIfInBounds_toArray, List.set_cons_zero, List.set_cons_succ, i64_w, i32_w]
                              rfl
                            refine pure_ (i := 2) (N := some 35) (v := ?_) (a' := ?_) #[true, true, true, false, false, false, false, false, false, false, false, false, false] rfl rfl (by kernel_rfl) (fun _ _ _ h => h) (Or.inl ⟨by rfl, ?_⟩) ?_ ?_
                            rotate_left
                            · intro w'
                              go_simp
                              with_reducible rfl
                            rotate_left
                            · simp only [Act.put, List.setIfInBounds_toArray, List.set_cons_zero, List.set_cons_succ, i64_w, i32_w]
                              rfl
                            refine take_ (i := 3) (N := some 36) (v := ?_) (a' := ?_) #[true, true, true, true, false, false, false, false, false, false, false, false, false] rfl rfl (by kernel_rfl) (fun _ _ _ h => h) (Or.inl ⟨by rfl, ?_⟩) hHeld ?_ ?_
                            rotate_left
                            · rintro w' ⟨s0, s1⟩
                              go_simp
                              with_reducible rfl
                            rotate_left
                            · simp only [Act.put, List.setIfInBounds_toArray, List.set_cons_zero, List.set_cons_succ, i64_w, i32_w]
                              rfl
                            refine pure_ (i := 4) (N := some 37) (v := ?_) (a' := ?_) #[true, true, true, true, true, false, false, false, false, false, false, false, false] rfl rfl (by kernel_rfl) (fun _ _ _ h => h) (Or.inl ⟨by rfl, ?_⟩) ?_ ?_
                            rotate_left
                            · intro w'
                              go_simp
                              with_reducible rfl
                            rotate_left
                            · simp only [Act.put, List.setIfInBounds_toArray, List.set_cons_zero, List.set_cons_succ, i64_w, i32_w]
                              rfl
                            refine pure_ (i := 5) (N := some 38) (v := ?_) (a' := ?_) #[true, true, true, true, true, true, false, false, false, false, false, false, false] rfl rfl (by kernel_rfl) (fun _ _ _ h => h) (Or.inl ⟨by rfl, ?_⟩) ?_ ?_
                            rotate_left
                            · intro w'
                              go_simp
                              with_reducible rfl
                            rotate_left
                            · simp only [Act.put, List.setIfInBounds_toArray, List.set_cons_zero, List.set_cons_succ, i64_w, i32_w]
                              rfl
                            refine take_ (i := 6) (N := some 39) (v := ?_) (a' := ?_) #[true, true, true, true, true, true, true, false, false, false, false, false, false] rfl rfl (by kernel_rfl) (fun _ _ _ h => h) (Or.inl ⟨by rfl, ?_⟩) hHeld ?_ ?_
                            rotate_left
                            · rintro w' ⟨s0, s1⟩
                              go_simp
                              with_reducible rfl
                            rotate_left
                            · simp only [Act.put, List.setIfInBounds_toArray, List.set_cons_zero, List.set_cons_succ, i64_w, i32_w]
                              rfl
                            refine pure_ (i := 7) (N := some 40) (v := ?_) (a' := ?_) #[true, true, true, true, true, true, true, true, false, false, false, false, false] rfl rfl (by kernel_rfl) (fun _ _ _ h => h) (Or.inl ⟨by rfl, ?_⟩) ?_ ?_
                            rotate_left
                            · intro w'
                              go_simp
                              with_reducible rfl
                            rotate_left
                            · simp only [Act.put, List.setIfInBounds_toArray, List.set_cons_zero, List.set_cons_succ, i64_w, i32_w]
                              rfl
                            refine pure_ (i := 8) (N := some 41) (v := ?_) (a' := ?_) #[true, true, true, true, true, true, true, true, true, false, false, false, false] rfl rfl (by kernel_rfl) (fun _ _ _ h => h) (Or.inl ⟨by rfl, ?_⟩) ?_ ?_
                            rotate_left
                            · intro w'
                              go_simp
                              with_reducible rfl
                            rotate_left
                            · simp only [Act.put, List.setIfInBounds_toArray, List.set_cons_zero, List.set_cons_succ, i64_w, i32_w]
                              rfl
                            refine pure_ (i := 9) (N := some 42) (v := ?_) (a' := ?_) #[true, true, true, true, true, true, true, true, true, true, false, false, false] rfl rfl (by kernel_rfl) (fun _ _ _ h => h) (Or.inl ⟨by rfl, ?_⟩) ?_ ?_
                            rotate_left
                            · intro w'
                              go_simp
                              with_reducible rfl
                            rotate_left
                            · simp only [Act.put, List.setIfInBounds_toArray, List.set_cons_zero, List.set_cons_succ, i64_w, i32_w]
                              rfl
                            refine one_ (i := 10) (N := none) #[true, true, true, true, true, true, true, true, true, true, true, false, false] rfl rfl (by kernel_rfl) (by decide) (fun K hK => ?_)
                            obtain ⟨hcg, hfg⟩ := HS.out.cell (wrap64 (x + 1)) m1.out m2.out
                            refine skip_ (w1 := ?_) (by rfl) rfl ?_ ?_
                            rotate_left
                            · go_simp
                              rfl
                            have n2_ := Aside0.mk (HS.out.set (wrap64 (x + 1)))
                            have n1_ := Aside0.mk (blk_far BK7.out (p := ⟨go, (wrap64 (x + 1)).toNat, none⟩) N7.out (.bool true))
                            clear HS BK7 hcg hfg
                            have HS := n2_
                            have BK7 := n1_
                            clear n1_ n2_
                            have hh : (b.set (wrap64 (x + 1)).toNat true).length = b.length := List.length_set ..
                            refine hK.out _ _ ⟨(blk_cell HS.out.2.1 0).trans (by rw [hh]; rfl), (blk_cell BK7.out 5).trans rfl⟩ (fun hHeld2 => ?_)
                            clear hK K hHeld
                            generalize World.setCell _ _ _ = w12 at HS BK7 hHeld2 ⊢
                            refine pure_ (i := 11) (N := some 43) (v := ?_) (a' := ?_) #[true, true, true, true, true, true, true, true, true, true, true, true, false] rfl rfl (by kernel_rfl) (fun _ _ _ h => h) (Or.inl ⟨by rfl, ?_⟩) ?_ ?_
                            rotate_left
                            · intro w'
                              go_simp
                              with_reducible rfl
                            rotate_left
                            · simp only [Act.put, List.setIfInBounds_toArray, List.set_cons_zero, List.set_cons_succ, i64_w, i32_w]
                              rfl
                            refine last_ (i := 12) (N := none) #[true, true, true, true, true, true, true, true, true, true, true, true, true] rfl rfl (by kernel_rfl) (by decide) (fun K hK => ?_)
                            obtain ⟨hcg, hfg⟩ := HS.out.cell (wrap64 (wrap64 (x + (rd_T51 l0 x).f5) + 1)) m3.out (by rw [hh]; exact m4.out)
                            refine skip_ (w1 := ?_) (by rfl) rfl ?_ ?_
                            rotate_left
                            · go_simp
                              rfl
                            refine hK.out _ _ ?_
                            clear hK K
                            refine done_ (by kernel_rfl) ?_
                            have n2_ := Aside0.mk (HS.out.set (wrap64 (wrap64 (x + (rd_T51 l0 x).f5) + 1)))
                            clear HS BK7 hcg hfg hHeld2
                            have HS := n2_
                            clear n2_
                            generalize World.setCell _ _ _ = w13 at HS ⊢
                            go_wp2
                            go_roundg k1
                            case measure => have := HK1.out; omega
                            case rel => exact ⟨_, _, (by first | rfl | (simp; done) | (simp [*]; done)), H', ⟨by have := HK1.out; omega⟩, ⟨by repeat (first | (with_reducible exact HS.out) | exact HS.out.below (by repeat (first | exact Below.refl _ _ | apply below_drew1 | apply below_alloc))) ⟩⟩
                          · rw [if_neg k40] at H; cases H
                        · rw [if_neg k30] at H; cases H
                      · rw [if_neg k20] at H; cases H
                    · rw [if_neg k10] at H; cases H
                  · replace c8 := Bool.eq_false_iff.mpr c8
                    subst c8
                    rw [if_neg (by simp)] at H
                    have H' := Aside0.mk H
                    clear H
                    go_wp2_with (first | ((with_reducible refine gate_dst (N := 7) rfl ?_); refine boxq_ (N := 7) (cs := #[.int .i64 0, .int .i64 0, .int .i64 0, .int .i64 0, .int .i64 0, .int .i64 0]) (t := 51) ?_; intro g7 hg w7_ hbox hb; have HK7 := Aside0.mk hb; have GE7 := Aside0.mk (show _ ≤ g7 from Nat.le_of_eq hg.symm); have BK7 := Aside0.mk hbox; clear hb hbox hg; have hcz0 := cq_ BK7.out 0 ((.int .i64 0)); have hcz1 := cq_ BK7.out 1 ((.int .i64 0)); have hcz2 := cq_ BK7.out 2 ((.int .i64 0)); have hcz3 := cq_ BK7.out 3 ((.int .i64 0)); have hcz4 := cq_ BK7.out 4 ((.int .i64 0)); have hcz5 := cq_ BK7.out 5 ((.int .i64 0)); have hfz0 := blk_frozen BK7.out 0; have hfz1 := blk_frozen BK7.out 1; have hfz2 := blk_frozen BK7.out 2; have hfz3 := blk_frozen BK7.out 3; have hfz4 := blk_frozen BK7.out 4; have hfz5 := blk_frozen BK7.out 5) | ((with_reducible refine gate_store (t := 51) (p := 7) rfl ?_); refine store_event (t := 51) (p := 7) (v := ?vo_w8) (w1 := ((((((w7_.setCell ⟨g7, 0, none⟩ (.int .i64 (rd_T51 l0 x).f0)).setCell ⟨g7, 1, none⟩ (.int .i64 (rd_T51 l0 x).f1)).setCell ⟨g7, 2, none⟩ (.int .i64 (rd_T51 l0 x).f2)).setCell ⟨g7, 3, none⟩ (.int .i64 (rd_T51 l0 x).f3)).setCell ⟨g7, 4, none⟩ (.int .i64 (rd_T51 l0 x).f4)).setCell ⟨g7, 5, none⟩ (.int .i64 (rd_T51 l0 x).f5))) ?hg ?ho ?hn ?hr ?_; (case ho => rfl); (case hg => rfl); (case hn => rfl); (case hr => first | (go_simp; done) | (go_simp; rfl)); intro w8 hw; have n0_ := Aside0.mk (show Below _ _ w8 from by rw [hw]; exact below_set (j := 5) (v := (.int .i64 (rd_T51 l0 x).f5)) (below_set (j := 4) (v := (.int .i64 (rd_T51 l0 x).f4)) (below_set (j := 3) (v := (.int .i64 (rd_T51 l0 x).f3)) (below_set (j := 2) (v := (.int .i64 (rd_T51 l0 x).f2)) (below_set (j := 1) (v := (.int .i64 (rd_T51 l0 x).f1)) (below_set (j := 0) (v := (.int .i64 (rd_T51 l0 x).f0)) (HK7.out) GE7.out) GE7.out) GE7.out) GE7.out) GE7.out) GE7.out); have n1_ := Aside0.mk (show w8.heap[g7]? = some (.cells #[.int .i64 (rd_T51 l0 x).f0, .int .i64 (rd_T51 l0 x).f1, .int .i64 (rd_T51 l0 x).f2, .int .i64 (rd_T51 l0 x).f3, .int .i64 (rd_T51 l0 x).f4, .int .i64 (rd_T51 l0 x).f5] 51 (0, 0)) from by rw [hw]; exact blk_put (cs := #[.int .i64 (rd_T51 l0 x).f0, .int .i64 (rd_T51 l0 x).f1, .int .i64 (rd_T51 l0 x).f2, .int .i64 (rd_T51 l0 x).f3, .int .i64 (rd_T51 l0 x).f4, .int .i64 0]) (cs' := #[.int .i64 (rd_T51 l0 x).f0, .int .i64 (rd_T51 l0 x).f1, .int .i64 (rd_T51 l0 x).f2, .int .i64 (rd_T51 l0 x).f3, .int .i64 (rd_T51 l0 x).f4, .int .i64 (rd_T51 l0 x).f5]) (blk_put (cs := #[.int .i64 (rd_T51 l0 x).f0, .int .i64 (rd_T51 l0 x).f1, .int .i64 (rd_T51 l0 x).f2, .int .i64 (rd_T51 l0 x).f3, .int .i64 0, .int .i64 0]) (cs' := #[.int .i64 (rd_T51 l0 x).f0, .int .i64 (rd_T51 l0 x).f1, .int .i64 (rd_T51 l0 x).f2, .int .i64 (rd_T51 l0 x).f3, .int .i64 (rd_T51 l0 x).f4, .int .i64 0]) (blk_put (cs := #[.int .i64 (rd_T51 l0 x).f0, .int .i64 (rd_T51 l0 x).f1, .int .i64 (rd_T51 l0 x).f2, .int .i64 0, .int .i64 0, .int .i64 0]) (cs' := #[.int .i64 (rd_T51 l0 x).f0, .int .i64 (rd_T51 l0 x).f1, .int .i64 (rd_T51 l0 x).f2, .int .i64 (rd_T51 l0 x).f3, .int .i64 0, .int .i64 0]) (blk_put (cs := #[.int .i64 (rd_T51 l0 x).f0, .int .i64 (rd_T51 l0 x).f1, .int .i64 0, .int .i64 0, .int .i64 0, .int .i64 0]) (cs' := #[.int .i64 (rd_T51 l0 x).f0, .int .i64 (rd_T51 l0 x).f1, .int .i64 (rd_T51 l0 x).f2, .int .i64 0, .int .i64 0, .int .i64 0]) (blk_put (cs := #[.int .i64 (rd_T51 l0 x).f0, .int .i64 0, .int .i64 0, .int .i64 0, .int .i64 0, .int .i64 0]) (cs' := #[.int .i64 (rd_T51 l0 x).f0, .int .i64 (rd_T51 l0 x).f1, .int .i64 0, .int .i64 0, .int .i64 0, .int .i64 0]) (blk_put (cs := #[.int .i64 0, .int .i64 0, .int .i64 0, .int .i64 0, .int .i64 0, .int .i64 0]) (cs' := #[.int .i64 (rd_T51 l0 x).f0, .int .i64 0, .int .i64 0, .int .i64 0, .int .i64 0, .int .i64 0]) (BK7.out) 0 (.int .i64 (rd_T51 l0 x).f0) rfl) 1 (.int .i64 (rd_T51 l0 x).f1) rfl) 2 (.int .i64 (rd_T51 l0 x).f2) rfl) 3 (.int .i64 (rd_T51 l0 x).f3) rfl) 4 (.int .i64 (rd_T51 l0 x).f4) rfl) 5 (.int .i64 (rd_T51 l0 x).f5) rfl); have n2_ := Aside0.mk (HS.out.below n0_.out); have n3_ := Aside0.mk (Nat.ne_of_gt (Nat.lt_of_lt_of_le (Kd.R_lt HS.out.2.2.2.1 go rfl) GE7.out)); clear HS BK7 HK7 GE7 n0_ hw hcz0 hfz0 hx0 hcz1 hfz1 hx1 hcz2 hfz2 hx2 hcz3 hfz3 hx3 hcz4 hfz4 hx4 hcz5 hfz5 hx5; have HS := n2_; have BK7 := n1_; have N7 := n3_; clear n1_ n2_ n3_; have hcy := (blk_cell HS.out.1 0).trans rfl; have hcx := (blk_cell HS.out.2.1 0).trans rfl; have hcv0 := (blk_cell BK7.out 0).trans rfl; have hcv1 := (blk_cell BK7.out 1).trans rfl; have hcv2 := (blk_cell BK7.out 2).trans rfl; have hcv3 := (blk_cell BK7.out 3).trans rfl; have hcv4 := (blk_cell BK7.out 4).trans rfl; have hcv5 := (blk_cell BK7.out 5).trans rfl; obtain ⟨ad2, e102, hx⟩ := Kd.at_bool (Kd.R_reads' HS.out.2.2.1).2.2 x p102 q102; cases e102; rw [NH.out] at hx; replace p102 := eq_true p102; replace q102 := eq_true q102) | (go_at_call 56; refine (impl_Step_jumps.calls (rd_T51 l0 x).f0 (rd_T51 l0 x).f1 (rd_T51 l0 x).f2 (rd_T51 l0 x).f3 (rd_T51 l0 x).f4 (rd_T51 l0 x).f5 false _ AJ.out).mono ?_; rintro e w9 ⟨rfl, hb⟩; have n1_ := Aside0.mk (blk_below BK7.out hb); have n2_ := Aside0.mk (HS.out.below hb); clear HS BK7 hb hx hcy hcx hcv0 hcv1 hcv2 hcv3 hcv4 hcv5; have HS := n2_; have BK7 := n1_; clear n1_ n2_; have hcy := (blk_cell HS.out.1 0).trans rfl; have hcx := (blk_cell HS.out.2.1 0).trans rfl; have hcv0 := (blk_cell BK7.out 0).trans rfl; have hcv1 := (blk_cell BK7.out 1).trans rfl; have hcv2 := (blk_cell BK7.out 2).trans rfl; have hcv3 := (blk_cell BK7.out 3).trans rfl; have hcv4 := (blk_cell BK7.out 4).trans rfl; have hcv5 := (blk_cell BK7.out 5).trans rfl))
                    go_roundg k1
                    case measure => have := HK1.out; omega
                    case rel => exact ⟨_, _, (by first | rfl | (simp; done) | (simp [*]; done)), H', ⟨by have := HK1.out; omega⟩, ⟨by repeat (first | (with_reducible exact HS.out) | exact HS.out.below (by repeat (first | exact Below.refl _ _ | apply below_drew1 | apply below_alloc))) ⟩⟩
                · rw [if_neg c7] at H
                  have NH := Aside0.mk (Bool.eq_false_iff.mpr c7)
                  have H' := Aside0.mk H
                  clear H c7
                  go_wp2_with (first | ((with_reducible refine gate_dst (N := 7) rfl ?_); refine boxq_ (N := 7) (cs := #[.int .i64 0, .int .i64 0, .int .i64 0, .int .i64 0, .int .i64 0, .int .i64 0]) (t := 51) ?_; intro g7 hg w7_ hbox hb; have HK7 := Aside0.mk hb; have GE7 := Aside0.mk (show _ ≤ g7 from Nat.le_of_eq hg.symm); have BK7 := Aside0.mk hbox; clear hb hbox hg; have hcz0 := cq_ BK7.out 0 ((.int .i64 0)); have hcz1 := cq_ BK7.out 1 ((.int .i64 0)); have hcz2 := cq_ BK7.out 2 ((.int .i64 0)); have hcz3 := cq_ BK7.out 3 ((.int .i64 0)); have hcz4 := cq_ BK7.out 4 ((.int .i64 0)); have hcz5 := cq_ BK7.out 5 ((.int .i64 0)); have hfz0 := blk_frozen BK7.out 0; have hfz1 := blk_frozen BK7.out 1; have hfz2 := blk_frozen BK7.out 2; have hfz3 := blk_frozen BK7.out 3; have hfz4 := blk_frozen BK7.out 4; have hfz5 := blk_frozen BK7.out 5) | ((with_reducible refine gate_store (t := 51) (p := 7) rfl ?_); refine store_event (t := 51) (p := 7) (v := ?vo_w8) (w1 := ((((((w7_.setCell ⟨g7, 0, none⟩ (.int .i64 (rd_T51 l0 x).f0)).setCell ⟨g7, 1, none⟩ (.int .i64 (rd_T51 l0 x).f1)).setCell ⟨g7, 2, none⟩ (.int .i64 (rd_T51 l0 x).f2)).setCell ⟨g7, 3, none⟩ (.int .i64 (rd_T51 l0 x).f3)).setCell ⟨g7, 4, none⟩ (.int .i64 (rd_T51 l0 x).f4)).setCell ⟨g7, 5, none⟩ (.int .i64 (rd_T51 l0 x).f5))) ?hg ?ho ?hn ?hr ?_; (case ho => rfl); (case hg => rfl); (case hn => rfl); (case hr => first | (go_simp; done) | (go_simp; rfl)); intro w8 hw; have n0_ := Aside0.mk (show Below _ _ w8 from by rw [hw]; exact below_set (j := 5) (v := (.int .i64 (rd_T51 l0 x).f5)) (below_set (j := 4) (v := (.int .i64 (rd_T51 l0 x).f4)) (below_set (j := 3) (v := (.int .i64 (rd_T51 l0 x).f3)) (below_set (j := 2) (v := (.int .i64 (rd_T51 l0 x).f2)) (below_set (j := 1) (v := (.int .i64 (rd_T51 l0 x).f1)) (below_set (j := 0) (v := (.int .i64 (rd_T51 l0 x).f0)) (HK7.out) GE7.out) GE7.out) GE7.out) GE7.out) GE7.out) GE7.out); have n1_ := Aside0.mk (show w8.heap[g7]? = some (.cells #[.int .i64 (rd_T51 l0 x).f0, .int .i64 (rd_T51 l0 x).f1, .int .i64 (rd_T51 l0 x).f2, .int .i64 (rd_T51 l0 x).f3, .int .i64 (rd_T51 l0 x).f4, .int .i64 (rd_T51 l0 x).f5] 51 (0, 0)) from by rw [hw]; exact blk_put (cs := #[.int .i64 (rd_T51 l0 x).f0, .int .i64 (rd_T51 l0 x).f1, .int .i64 (rd_T51 l0 x).f2, .int .i64 (rd_T51 l0 x).f3, .int .i64 (rd_T51 l0 x).f4, .int .i64 0]) (cs' := #[.int .i64 (rd_T51 l0 x).f0, .int .i64 (rd_T51 l0 x).f1, .int .i64 (rd_T51 l0 x).f2, .int .i64 (rd_T51 l0 x).f3, .int .i64 (rd_T51 l0 x).f4, .int .i64 (rd_T51 l0 x).f5]) (blk_put (cs := #[.int .i64 (rd_T51 l0 x).f0, .int .i64 (rd_T51 l0 x).f1, .int .i64 (rd_T51 l0 x).f2, .int .i64 (rd_T51 l0 x).f3, .int .i64 0, .int .i64 0]) (cs' := #[.int .i64 (rd_T51 l0 x).f0, .int .i64 (rd_T51 l0 x).f1, .int .i64 (rd_T51 l0 x).f2, .int .i64 (rd_T51 l0 x).f3, .int .i64 (rd_T51 l0 x).f4, .int .i64 0]) (blk_put (cs := #[.int .i64 (rd_T51 l0 x).f0, .int .i64 (rd_T51 l0 x).f1, .int .i64 (rd_T51 l0 x).f2, .int .i64 0, .int .i64 0, .int .i64 0]) (cs' := #[.int .i64 (rd_T51 l0 x).f0, .int .i64 (rd_T51 l0 x).f1, .int .i64 (rd_T51 l0 x).f2, .int .i64 (rd_T51 l0 x).f3, .int .i64 0, .int .i64 0]) (blk_put (cs := #[.int .i64 (rd_T51 l0 x).f0, .int .i64 (rd_T51 l0 x).f1, .int .i64 0, .int .i64 0, .int .i64 0, .int .i64 0]) (cs' := #[.int .i64 (rd_T51 l0 x).f0, .int .i64 (rd_T51 l0 x).f1, .int .i64 (rd_T51 l0 x).f2, .int .i64 0, .int .i64 0, .int .i64 0]) (blk_put (cs := #[.int .i64 (rd_T51 l0 x).f0, .int .i64 0, .int .i64 0, .int .i64 0, .int .i64 0, .int .i64 0]) (cs' := #[.int .i64 (rd_T51 l0 x).f0, .int .i64 (rd_T51 l0 x).f1, .int .i64 0, .int .i64 0, .int .i64 0, .int .i64 0]) (blk_put (cs := #[.int .i64 0, .int .i64 0, .int .i64 0, .int .i64 0, .int .i64 0, .int .i64 0]) (cs' := #[.int .i64 (rd_T51 l0 x).f0, .int .i64 0, .int .i64 0, .int .i64 0, .int .i64 0, .int .i64 0]) (BK7.out) 0 (.int .i64 (rd_T51 l0 x).f0) rfl) 1 (.int .i64 (rd_T51 l0 x).f1) rfl) 2 (.int .i64 (rd_T51 l0 x).f2) rfl) 3 (.int .i64 (rd_T51 l0 x).f3) rfl) 4 (.int .i64 (rd_T51 l0 x).f4) rfl) 5 (.int .i64 (rd_T51 l0 x).f5) rfl); have n2_ := Aside0.mk (HS.out.below n0_.out); have n3_ := Aside0.mk (Nat.ne_of_gt (Nat.lt_of_lt_of_le (Kd.R_lt HS.out.2.2.2.1 go rfl) GE7.out)); clear HS BK7 HK7 GE7 n0_ hw hcz0 hfz0 hx0 hcz1 hfz1 hx1 hcz2 hfz2 hx2 hcz3 hfz3 hx3 hcz4 hfz4 hx4 hcz5 hfz5 hx5; have HS := n2_; have BK7 := n1_; have N7 := n3_; clear n1_ n2_ n3_; have hcy := (blk_cell HS.out.1 0).trans rfl; have hcx := (blk_cell HS.out.2.1 0).trans rfl; have hcv0 := (blk_cell BK7.out 0).trans rfl; have hcv1 := (blk_cell BK7.out 1).trans rfl; have hcv2 := (blk_cell BK7.out 2).trans rfl; have hcv3 := (blk_cell BK7.out 3).trans rfl; have hcv4 := (blk_cell BK7.out 4).trans rfl; have hcv5 := (blk_cell BK7.out 5).trans rfl; obtain ⟨ad2, e102, hx⟩ := Kd.at_bool (Kd.R_reads' HS.out.2.2.1).2.2 x p102 q102; cases e102; rw [NH.out] at hx; replace p102 := eq_true p102; replace q102 := eq_true q102))
                  go_roundg k1
                  case measure => have := HK1.out; omega
                  case rel => exact ⟨_, _, (by first | rfl | (simp; done) | (simp [*]; done)), H', ⟨by have := HK1.out; omega⟩, ⟨by repeat (first | (with_reducible exact HS.out) | exact HS.out.below (by repeat (first | exact Below.refl _ _ | apply below_drew1 | apply below_alloc))) ⟩⟩
              · rw [if_neg c6] at H; cases H
            · rw [if_neg c5] at H; cases H
          · rw [if_neg c4] at H
            have c4b0 : decide (x < (l0.length : Int)) = false := decide_eq_false c4
            clear c4
            obtain rfl := Option.some.inj H
            clear H
            have hcz4 := (blk_cell HS.out.1 0).trans rfl
            go_wp2_with (go_at_call 51; refine (impl_LeadersOf.lst_calls k g4 g5 (impl_LeadersOf.pr y b) (l0.length : Int) o _ (fun W z v hbW hv => impl_LeadersOf.pr_calls g4 g5 Ao co y (some ⟨go, 0, none⟩) cb b z v W (HS.out.below hbW).1 (HS.out.below hbW).2.1 (Kd.R_reads' (HS.out.below hbW).2.2.1).2.2 (Kd.R_reads' (HS.out.below hbW).2.2.2.1).2.2 hv) A9.out).mono ?_; rintro e w7 ⟨v1, rfl, ho2, hb⟩; have HO2 := Aside0.mk (Kd.R_lower ho2 (below_size HS.out.2.2.2.2.1)); have HB := Aside0.mk (below_step HS.out.2.2.2.2.1 hb); clear ho2 hb)
            go_ret2
            exact ⟨_, by first | rfl | (simp; done) | (simp [*]; done), rq_ HO2.out, bq_⟩
    · rw [if_neg hl] at H1; cases H1
  · replace c8 := Bool.eq_false_iff.mpr c8
    subst c8
    rw [if_neg (by simp)] at H
    simp only [Option.some.injEq, Prod.mk.injEq] at H
    obtain ⟨rfl, rfl⟩ := H
    go_enter Try.func26, Try.ntmps26
    go_wp2_with (go_at_call 49; refine (impl_GoodProgram.calls k _ _ l0 false _ (Kd.C_below HR0.out (bq_)) HC0.out A7.out).mono ?_; rintro e w3 ⟨rfl, hb⟩; have n0_ := Aside0.mk (below_step (bq_) hb); clear HB hb; have HB := n0_; clear n0_)
    go_ret2
    exact ⟨_, by first | rfl | (simp; done) | (simp [*]; done), Kd.R_nil _ _ _ _ _, bq_⟩

end Go.Proofs.Ytcmhkgpalfljbaa.PIL
