-- Made by myprint.py (this session's program, over the kit's print) for this claim. Lean checks it.
import Derived.Test.YtcmhkgpalfljbaaPINx0
import Derived.Test.YtcmhkgpalfljbaaPINx4
namespace Go.Proofs.Ytcmhkgpalfljbaa.PIN
open Go.RowKit Go.Proofs.YtcmhkgpalfljbaaW.PrintWords Go.Proofs.YtcmhkgpalfljbaaW.PrintLast Go.Proofs.YtcmhkgpalfljbaaW.PrintMore
attribute [local go_sem] max2_int min2_int max_two min_two max_three min_three max_four min_four   -- for this text's walks alone
set_option linter.unusedVariables false
set_option linter.unusedSimpArgs false

/-! ### spec_l11Reached: function 48 -/
mutual
def spec_l11Reached.l0 : Nat → List (S51) → List Int → Int → Option (List Int)
  | 0, _, _, _ => none
  | k + 1, x0, x5, x6 => if x6 < (x0.length : Int) then ((spec_l1Has.f k x5 x6).bind fun t215 => (if t215 = true then ((spec_l2Nexts.f x0 x6).bind fun t216 => (spec_l11Reached.l1 k x0 x5 x6 t216 (t216.length : Int) 0)) else (spec_l11Reached.l0 k x0 x5 (wrap64 (x6 + 1))))) else (some x5)
def spec_l11Reached.l1 : Nat → List (S51) → List Int → Int → List Int → Int → Int → Option (List Int)
  | 0, _, _, _, _, _, _ => none
  | k + 1, x0, x5, x6, x23, x24, x25 => if x25 < x24 then (if 0 ≤ x25 then (if x25 < (x23.length : Int) then ((spec_l1Put.f k x5 (rd x23 x25)).bind fun t220 => (spec_l11Reached.l1 k x0 t220 x6 x23 x24 (wrap64 (x25 + 1)))) else (none)) else (none)) else (spec_l11Reached.l0 k x0 x5 (wrap64 (x6 + 1)))
end
def spec_l11Reached.f (k : Nat) (l0 : List (S51)) (a1 : Int) : Option (List Int) := spec_l11Reached.l0 k l0 (([a1] : List Int)) a1
theorem spec_l11Reached.mono_l : ∀ k, (∀ y0 y1 y2, LeO (spec_l11Reached.l0 k y0 y1 y2) (spec_l11Reached.l0 (k + 1) y0 y1 y2)) ∧ (∀ y0 y1 y2 y3 y4 y5, LeO (spec_l11Reached.l1 k y0 y1 y2 y3 y4 y5) (spec_l11Reached.l1 (k + 1) y0 y1 y2 y3 y4 y5))
  | 0 => ⟨fun _ _ _ r h => by simp [spec_l11Reached.l0] at h, fun _ _ _ _ _ _ r h => by simp [spec_l11Reached.l1] at h⟩
  | k + 1 => by
    obtain ⟨ih0, ih1⟩ := spec_l11Reached.mono_l k
    refine ⟨?_, ?_⟩
    · intro y0 y1 y2
      unfold spec_l11Reached.l0
      repeat' first
      | (with_reducible exact ih0 _ _ _)
      | (with_reducible exact ih1 _ _ _ _ _ _)
      | (with_reducible exact spec_l1Has.mono _ _ _)
      | (with_reducible exact spec_l1Put.mono _ _ _)
      | (with_reducible exact LeO.refl _)
      | (with_reducible exact LeO.none _)
      | (with_reducible refine LeO.ite ?_ ?_)
      | (with_reducible refine LeO.bind ?_ (fun _ => ?_))
      | exact ih0 _ _ _
      | exact ih1 _ _ _ _ _ _
      | exact spec_l1Has.mono _ _ _
      | exact spec_l1Put.mono _ _ _
      | exact LeO.none _
      | refine LeO.ite ?_ ?_
      | refine LeO.bind ?_ (fun _ => ?_)
    · intro y0 y1 y2 y3 y4 y5
      unfold spec_l11Reached.l1
      repeat' first
      | (with_reducible exact ih0 _ _ _)
      | (with_reducible exact ih1 _ _ _ _ _ _)
      | (with_reducible exact spec_l1Has.mono _ _ _)
      | (with_reducible exact spec_l1Put.mono _ _ _)
      | (with_reducible exact LeO.refl _)
      | (with_reducible exact LeO.none _)
      | (with_reducible refine LeO.ite ?_ ?_)
      | (with_reducible refine LeO.bind ?_ (fun _ => ?_))
      | exact ih0 _ _ _
      | exact ih1 _ _ _ _ _ _
      | exact spec_l1Has.mono _ _ _
      | exact spec_l1Put.mono _ _ _
      | exact LeO.none _
      | refine LeO.ite ?_ ?_
      | refine LeO.bind ?_ (fun _ => ?_)
theorem spec_l11Reached.mono : ∀ a0 a1 k, LeO (spec_l11Reached.f k a0 a1) (spec_l11Reached.f (k + 1) a0 a1) := by
  intro a0 a1 k
  obtain ⟨ih0, ih1⟩ := spec_l11Reached.mono_l k
  unfold spec_l11Reached.f
  repeat' first
      | (with_reducible exact ih0 _ _ _)
      | (with_reducible exact ih1 _ _ _ _ _ _)
      | (with_reducible exact spec_l1Has.mono _ _ _)
      | (with_reducible exact spec_l1Put.mono _ _ _)
      | (with_reducible exact LeO.refl _)
      | (with_reducible exact LeO.none _)
      | (with_reducible refine LeO.ite ?_ ?_)
      | (with_reducible refine LeO.bind ?_ (fun _ => ?_))
      | exact ih0 _ _ _
      | exact ih1 _ _ _ _ _ _
      | exact spec_l1Has.mono _ _ _
      | exact spec_l1Put.mono _ _ _
      | exact LeO.none _
      | refine LeO.ite ?_ ?_
      | refine LeO.bind ?_ (fun _ => ?_)
set_option maxHeartbeats 8000000 in
set_option maxRecDepth 100000 in
theorem spec_l11Reached.calls (k : Nat) (A0 : Option Addr) (c0 : Nat) (l0 : List (S51)) (a1 : Int) (r : List Int) (w : World) (hr0 : Kd.C k51 w A0 l0.length l0) (hc0 : l0.length ≤ c0) (h : spec_l11Reached.f k l0 a1 = some r) :
    Calls Try.prog 48 #[.slice A0 l0.length c0, .int .i64 a1] w fun e w' => ∃ v0_ : Value, e = .returned (v0_) ∧ Kd.R (Kd.int .i64) 3 w' w.heap.size (fun _ => True) v0_ r ∧ Below w.heap.size w w' := by
  have HR0 := Aside0.mk hr0
  have HC0 := Aside0.mk hc0
  clear hr0 hc0
  have HB := Aside0.mk (Below.refl w.heap.size w)
  have H : (spec_l11Reached.l0 k l0 (([a1] : List Int)) a1) = some r := h
  clear h
  obtain ⟨y212, hy212⟩ : ∃ y_ : List Int, y_ = (([a1] : List Int)) := ⟨_, rfl⟩
  replace H : (spec_l11Reached.l0 k l0 y212 a1) = some r := by first | (rw [hy212]; with_reducible exact H) | (have H2_ := (Option.bind_some _ _).symm.trans H; rw [hy212]; with_reducible exact H2_) | (have H2_ := (Option.bind_some _ _).symm.trans H; with_reducible exact H2_) | with_reducible exact H | (rw [hy212]; exact H) | exact H
  have Ny212 := Aside0.mk hy212
  clear hy212
  have H' := Aside0.mk H
  clear H
  go_enter Try.func48, Try.ntmps48
  go_wp2_with (first | ((with_reducible refine gate_dst (N := 10) rfl ?_); refine Kd.R_lit (Kd.int .i64) _ 3 ?hg (N := 10) ?hd (xs := ([a1] : List Int)) (inner := [.int .i64 a1]) (ok := fun _ => True) (okp := fun _ => True) ?hr ?hp (fun _ hk => hk) trivial (Below.refl _ _) (Nat.le_refl _) (by simp) ?_; (case hd => rfl); (case hg => rfl); (case hr => first | (go_simp; done) | (go_simp; rfl)); (case hp => exact (Reps.one (show Kd.M (Kd.int .i64) _ _ _ a1 [.int .i64 a1] from rfl) (Reps.none _ _))); intro v213 w3 ho4 hb hg_ hnew_; clear hg_ hnew_; (first | rw [← Ny212.out] at ho4 | (simp only [Int.reduceToNat] at ho4; rw [← Ny212.out] at ho4)); have n0_ := Aside0.mk (Kd.R_lower ho4 (below_size (bq_))); have n1_ := Aside0.mk (below_step (bq_) hb); clear HB; have HO214 := n0_; have HB := n1_; clear n0_ n1_; clear hb ho4))
  go_loopg [5, 6] k (fun kq v5 v6 w' => ∃ (x5_1 : List Int) (x6_1 : Int), v6 = .int .i64 x6_1 ∧ Aside0 (spec_l11Reached.l0 kq l0 x5_1 x6_1 = some r) ∧ Aside0 (kq ≤ k) ∧ Aside0 (Kd.R (Kd.int .i64) 3 w' w.heap.size (fun _ => True) v5 x5_1) ∧ Aside0 (Below w.heap.size w w'))
  case atStart => exact ⟨(y212), (a1), (by first | rfl | (simp; done) | (simp [*]; done)), H', ⟨Nat.le_refl _⟩, ⟨rq_ HO214.out⟩, ⟨bq_⟩⟩
  case round =>
    clear H'
    try clear p2
    try clear c4
    obtain ⟨x5_1, x6_1, rfl, HA, HK1, HO_5, HB⟩ := hrel
    cases gk with
    | zero => exact absurd HA.out (by simp [spec_l11Reached.l0])
    | succ k1 =>
      have H := HA.out
      clear HA
      simp only [spec_l11Reached.l0] at H
      by_cases c5 : x6_1 < (l0.length : Int)
      · rw [if_pos c5] at H
        have c5b0 : decide (x6_1 < (l0.length : Int)) = true := decide_eq_true c5
        clear c5
        replace H := Option.bind_eq_some_iff.mp H
        obtain ⟨t215, A60, H⟩ := H
        replace H : (if t215 = true then ((spec_l2Nexts.f l0 x6_1).bind fun t216 => (spec_l11Reached.l1 k1 l0 x5_1 x6_1 t216 (t216.length : Int) 0)) else (spec_l11Reached.l0 k1 l0 x5_1 (wrap64 (x6_1 + 1)))) = some r := H
        have A6 := Aside0.mk A60
        clear A60
        by_cases c7 : t215 = true
        · subst c7
          have H1 : ((spec_l2Nexts.f l0 x6_1).bind fun t216 => (spec_l11Reached.l1 k1 l0 x5_1 x6_1 t216 (t216.length : Int) 0)) = some r := by rw [if_pos rfl] at H; exact H
          clear H
          have H := H1
          clear H1
          replace H := Option.bind_eq_some_iff.mp H
          obtain ⟨t216, A80, H⟩ := H
          replace H : (spec_l11Reached.l1 k1 l0 x5_1 x6_1 t216 (t216.length : Int) 0) = some r := H
          have A8 := Aside0.mk A80
          clear A80
          have H' := Aside0.mk H
          clear H
          obtain ⟨Ao9, co9, eo9⟩ := Kd.R_slice HO_5.out
          subst eo9
          go_wp2_with (first | ((with_reducible refine gate_callee (f := 55) rfl ?_); refine goesL_ (some 20) rfl rfl Try.func55 (by kernel_rfl) rfl #[.slice Ao9 x5_1.length co9, .int .i64 x6_1] rfl (by (try simp only [List.map_toArray, List.map_cons, List.map_nil]); first | done | rfl | (simp only [List.length_drop, List.length_take]; rfl)) ?_; (with_reducible refine (spec_l1Has.calls k1 _ _ x5_1 x6_1 true _ ?side1 ?side2 A6.out).mono ?_); (case side1 => repeat (first | exact (Kd.R_reads' HO_5.out).2.2 | (with_reducible refine Kd.C_alloc ?_ _) | (with_reducible refine Kd.C_drewN ?_ _) | (with_reducible refine Kd.C_drew ?_))); (case side2 => exact (Kd.R_reads' HO_5.out).2.1); rintro e w' ⟨rfl, ⟨nd, rfl⟩⟩; refine ⟨_, rfl, ?_⟩) | ((with_reducible refine gate_callee (f := 42) rfl ?_); refine goesL_ (some 23) rfl rfl Try.func42 (by kernel_rfl) rfl #[.slice A0 l0.length c0, .int .i64 x6_1] rfl (by (try simp only [List.map_toArray, List.map_cons, List.map_nil]); first | done | rfl | (simp only [List.length_drop, List.length_take]; rfl)) ?_; (with_reducible refine (spec_l2Nexts.calls _ _ l0 x6_1 t216 _ ?side1 ?side2 A8.out).mono ?_); (case side1 => repeat (first | exact (Kd.C_below HR0.out (bq_)) | (with_reducible refine Kd.C_alloc ?_ _) | (with_reducible refine Kd.C_drewN ?_ _) | (with_reducible refine Kd.C_drew ?_))); (case side2 => exact HC0.out); rintro e w10 ⟨v217, rfl, ho0, hb⟩; refine ⟨_, rfl, ?_⟩; have n0_ := Aside0.mk (Kd.R_elder' (rq_ HO_5.out) (Kd.R_base ho0) hb); have n1_ := Aside0.mk (Kd.R_lower (Kd.R_new' ho0 (Kd.R_lt (rq_ HO_5.out))) (below_size (bq_))); have n2_ := Aside0.mk (below_step (bq_) hb); clear HO_5; clear HB; have HO_5 := n0_; have HO218 := n1_; have HB := n2_; clear n0_ n1_ n2_; (try clear hb); (try clear hb2); (try clear hk); (try clear hi); (try clear ho0); obtain ⟨Ao11, co11, eo11⟩ := Kd.R_slice HO218.out; subst eo11))
          go_loopg [5, 25] k1 (fun kq v5 v25 w' => ∃ (x5_2 : List Int) (x25_2 : Int), v25 = .int .i64 x25_2 ∧ Aside0 (spec_l11Reached.l1 kq l0 x5_2 x6_1 t216 (t216.length : Int) x25_2 = some r) ∧ Aside0 (kq ≤ k1) ∧ Aside0 (Kd.R (Kd.int .i64) 3 w' w.heap.size (fun k_ => some k_ ≠ ((.slice Ao11 t216.length co11) : Value).ownBlock) v5 x5_2) ∧ Aside0 (Kd.R (Kd.int .i64) 3 w' w.heap.size (fun k_ => some k_ ≠ (v5 : Value).ownBlock) (.slice Ao11 t216.length co11) t216) ∧ Aside0 (Below w.heap.size w w'))
          case atStart => exact ⟨(x5_1), (0), (by first | rfl | (simp; done) | (simp [*]; done)), H', ⟨Nat.le_refl _⟩, ⟨rq_ (Kd.R_mono HO_5.out (fun _ hk => hk.2))⟩, ⟨rq_ (Kd.R_mono HO218.out (fun _ hk => hk.2))⟩, ⟨bq_⟩⟩
          case round =>
            clear H'
            try clear p2
            try clear c4
            try clear c5
            try clear c5b0
            try clear p6
            try clear c7
            try clear p2
            obtain ⟨x5_2, x25_2, rfl, HA, HK2, HO_5, HO_23, HB⟩ := hrel
            cases gk with
            | zero => exact absurd HA.out (by simp [spec_l11Reached.l1])
            | succ k2 =>
              have H := HA.out
              clear HA
              simp only [spec_l11Reached.l1] at H
              by_cases c12 : x25_2 < (t216.length : Int)
              · rw [if_pos c12] at H
                have c12b0 : decide (x25_2 < (t216.length : Int)) = true := decide_eq_true c12
                clear c12
                by_cases c13 : 0 ≤ x25_2
                · rw [if_pos c13] at H
                  have c13b0 : decide (0 ≤ x25_2) = true := decide_eq_true c13
                  clear c13
                  by_cases c14 : x25_2 < (t216.length : Int)
                  · rw [if_pos c14] at H
                    have c14b0 : decide (x25_2 < (t216.length : Int)) = true := decide_eq_true c14
                    clear c14
                    replace H := Option.bind_eq_some_iff.mp H
                    obtain ⟨t220, A150, H⟩ := H
                    replace H : (spec_l11Reached.l1 k2 l0 t220 x6_1 t216 (t216.length : Int) (wrap64 (x25_2 + 1))) = some r := H
                    have A15 := Aside0.mk A150
                    clear A150
                    have H' := Aside0.mk H
                    clear H
                    have p219 : 0 ≤ (x25_2 : Int) := of_decide_eq_true (by first | (with_reducible assumption) | assumption)
                    have q219 : x25_2 < (t216.length : Int) := of_decide_eq_true (by first | (with_reducible assumption) | assumption)
                    obtain ⟨ad219, e219, hx219_0⟩ := Kd.at_int (Kd.R_reads' HO_23.out).2.2 x25_2 p219 q219
                    cases e219
                    replace p219 := eq_true p219
                    replace q219 := eq_true q219
                    obtain ⟨Ao16, co16, eo16⟩ := Kd.R_slice HO_5.out
                    subst eo16
                    go_wp2_with (first | ((with_reducible refine gate_callee (f := 54) rfl ?_); refine goesL_ (some 31) rfl rfl Try.func54 (by kernel_rfl) rfl #[.slice Ao16 x5_2.length co16, .int .i64 (rd t216 x25_2)] rfl (by (try simp only [List.map_toArray, List.map_cons, List.map_nil]); first | done | rfl | (simp only [List.length_drop, List.length_take]; rfl)) ?_; (with_reducible refine (spec_l1Put.calls k2 (fun k_ => some k_ = (.slice Ao16 x5_2.length co16 : Value).ownBlock) (.slice Ao16 x5_2.length co16) x5_2 (rd t216 x25_2) t220 w _ ?side1 ?side2 A15.out).mono ?_); (case side1 => repeat (first | (with_reducible first | exact HB.out | apply below_alloc | apply pw_below_drewN | apply below_drew1) | exact HB.out)); (case side2 => exact Kd.R_tight rfl HO_5.out); rintro e w17 ⟨v221, rfl, ho0, hb, hkp⟩; refine ⟨_, rfl, ?_⟩; have n0_ := Aside0.mk (Kd.R_mono (ok' := fun k_ => some k_ ≠ (v221 : Value).ownBlock) (Kd.R_keptB (HO_23.out) hkp (fun k_ hk_ hs_ => (hk_) hs_)) (fun k_ hk_ => fun e_ => Or.elim (ho0.1 k_ e_.symm) (fun hs_ => hk_.2.1 hs_) (fun hn_ => Nat.not_le.2 hk_.2.2 hn_))); have n1_ := Aside0.mk (Kd.R_mono (ok' := fun k_ => some k_ ≠ (.slice (some ad219) t216.length co11 : Value).ownBlock) ho0 (fun k_ hk_ => Or.elim hk_ (fun hs_ => fun e_ => (((HO_23.out).1 k_ e_.symm)) hs_) (fun hn_ => (Kd.fresh' (Kd.R_lt (rq_ HO_23.out)) k_ hn_)))); have n2_ := Aside0.mk (hb); clear HO_23; clear HB; clear HO_5; have HO_23 := n0_; have HO222 := n1_; have HB := n2_; clear n0_ n1_ n2_; (try clear hb); (try clear hkp); (try clear ho0)))
                    go_roundg k2
                    case measure => have := HK1.out; have := HK2.out; omega
                    case rel => exact ⟨(t220), (wrap64 (x25_2 + 1)), (by first | rfl | (simp; done) | (simp [*]; done)), H', ⟨by have := HK1.out; have := HK2.out; omega⟩, ⟨rq_ HO222.out⟩, ⟨rq_ HO_23.out⟩, ⟨bq_⟩⟩
                  · rw [if_neg c14] at H
                    exact absurd H (by simp)
                · rw [if_neg c13] at H
                  exact absurd H (by simp)
              · rw [if_neg c12] at H
                have c12b0 : decide (x25_2 < (t216.length : Int)) = false := decide_eq_false c12
                clear c12
                have H' := Aside0.mk H
                clear H
                go_wp2
                go_roundg k2
                case measure => have := HK1.out; have := HK2.out; omega
                case rel => exact ⟨(x5_2), (wrap64 (x6_1 + 1)), (by first | rfl | (simp; done) | (simp [*]; done)), H', ⟨by have := HK1.out; have := HK2.out; omega⟩, ⟨rq_ (Kd.R_mono HO_5.out (fun _ hk => trivial))⟩, ⟨bq_⟩⟩
        · replace c7 := Bool.eq_false_iff.mpr c7
          subst c7
          have H1 : (spec_l11Reached.l0 k1 l0 x5_1 (wrap64 (x6_1 + 1))) = some r := by rw [if_neg (show ¬ (false = true) by decide)] at H; exact H
          clear H
          have H := H1
          clear H1
          have H' := Aside0.mk H
          clear H
          obtain ⟨Ao18, co18, eo18⟩ := Kd.R_slice HO_5.out
          subst eo18
          go_wp2_with (first | ((with_reducible refine gate_callee (f := 55) rfl ?_); refine goesL_ (some 20) rfl rfl Try.func55 (by kernel_rfl) rfl #[.slice Ao18 x5_1.length co18, .int .i64 x6_1] rfl (by (try simp only [List.map_toArray, List.map_cons, List.map_nil]); first | done | rfl | (simp only [List.length_drop, List.length_take]; rfl)) ?_; (with_reducible refine (spec_l1Has.calls k1 _ _ x5_1 x6_1 false _ ?side1 ?side2 A6.out).mono ?_); (case side1 => repeat (first | exact (Kd.R_reads' HO_5.out).2.2 | (with_reducible refine Kd.C_alloc ?_ _) | (with_reducible refine Kd.C_drewN ?_ _) | (with_reducible refine Kd.C_drew ?_))); (case side2 => exact (Kd.R_reads' HO_5.out).2.1); rintro e w' ⟨rfl, ⟨nd, rfl⟩⟩; refine ⟨_, rfl, ?_⟩))
          go_roundg k1
          case measure => have := HK1.out; omega
          case rel => exact ⟨(x5_1), (wrap64 (x6_1 + 1)), (by first | rfl | (simp; done) | (simp [*]; done)), H', ⟨by have := HK1.out; omega⟩, ⟨rq_ HO_5.out⟩, ⟨bq_⟩⟩
      · rw [if_neg c5] at H
        have c5b0 : decide (x6_1 < (l0.length : Int)) = false := decide_eq_false c5
        clear c5
        obtain rfl := Option.some.inj H
        go_wp2
        go_ret
        exact ⟨_, by first | rfl | (simp [errW_none, errW_some] <;> rfl) | (simp [*, errW_none, errW_some] <;> rfl), rq_ HO_5.out, bq_⟩

/-! ### spec_l11Ahead: function 58 -/
def spec_l11Ahead.l0 : Nat → List (S51) → Int → List Int → List Int → Int → Int → Option (List Int)
  | 0, _, _, _, _, _, _ => none
  | k + 1, x0, x1, x5, x9, x10, x11 => if x11 < x10 then (if 0 ≤ x11 then (if x11 < (x9.length : Int) then ((spec_l2Nexts.f x0 (rd x9 x11)).bind fun t227 => ((spec_l1Has.f k t227 x1).bind fun t230 => (if t230 = true then (if x5.length < 17592186044416 then (spec_l11Ahead.l0 k x0 x1 (x5 ++ [rd x9 x11]) x9 x10 (wrap64 (x11 + 1))) else (none)) else (spec_l11Ahead.l0 k x0 x1 x5 x9 x10 (wrap64 (x11 + 1)))))) else (none)) else (none)) else (some x5)
def spec_l11Ahead.f (k : Nat) (l0 : List (S51)) (a1 : Int) : Option (List Int) := (spec_l11Reached.f k l0 0).bind fun t223 => (spec_l11Ahead.l0 k l0 a1 ([] : List Int) t223 (t223.length : Int) 0)
theorem spec_l11Ahead.mono_l : ∀ k, (∀ y0 y1 y2 y3 y4 y5, LeO (spec_l11Ahead.l0 k y0 y1 y2 y3 y4 y5) (spec_l11Ahead.l0 (k + 1) y0 y1 y2 y3 y4 y5))
  | 0 => fun _ _ _ _ _ _ r h => by simp [spec_l11Ahead.l0] at h
  | k + 1 => by
    have ih0 := spec_l11Ahead.mono_l k
    · intro y0 y1 y2 y3 y4 y5
      unfold spec_l11Ahead.l0
      repeat' first
      | (with_reducible exact ih0 _ _ _ _ _ _)
      | (with_reducible exact spec_l11Reached.mono _ _ _)
      | (with_reducible exact spec_l1Has.mono _ _ _)
      | (with_reducible exact LeO.refl _)
      | (with_reducible exact LeO.none _)
      | (with_reducible refine LeO.ite ?_ ?_)
      | (with_reducible refine LeO.bind ?_ (fun _ => ?_))
      | exact ih0 _ _ _ _ _ _
      | exact spec_l11Reached.mono _ _ _
      | exact spec_l1Has.mono _ _ _
      | exact LeO.none _
      | refine LeO.ite ?_ ?_
      | refine LeO.bind ?_ (fun _ => ?_)
theorem spec_l11Ahead.mono : ∀ a0 a1 k, LeO (spec_l11Ahead.f k a0 a1) (spec_l11Ahead.f (k + 1) a0 a1) := by
  intro a0 a1 k
  have ih0 := spec_l11Ahead.mono_l k
  unfold spec_l11Ahead.f
  repeat' first
      | (with_reducible exact ih0 _ _ _ _ _ _)
      | (with_reducible exact spec_l11Reached.mono _ _ _)
      | (with_reducible exact spec_l1Has.mono _ _ _)
      | (with_reducible exact LeO.refl _)
      | (with_reducible exact LeO.none _)
      | (with_reducible refine LeO.ite ?_ ?_)
      | (with_reducible refine LeO.bind ?_ (fun _ => ?_))
      | exact ih0 _ _ _ _ _ _
      | exact spec_l11Reached.mono _ _ _
      | exact spec_l1Has.mono _ _ _
      | exact LeO.none _
      | refine LeO.ite ?_ ?_
      | refine LeO.bind ?_ (fun _ => ?_)
set_option maxHeartbeats 8000000 in
set_option maxRecDepth 100000 in
theorem spec_l11Ahead.calls (k : Nat) (A0 : Option Addr) (c0 : Nat) (l0 : List (S51)) (a1 : Int) (r : List Int) (w : World) (hr0 : Kd.C k51 w A0 l0.length l0) (hc0 : l0.length ≤ c0) (h : spec_l11Ahead.f k l0 a1 = some r) :
    Calls Try.prog 58 #[.slice A0 l0.length c0, .int .i64 a1] w fun e w' => ∃ v0_ : Value, e = .returned (v0_) ∧ Kd.R (Kd.int .i64) 3 w' w.heap.size (fun _ => True) v0_ r ∧ Below w.heap.size w w' := by
  have HR0 := Aside0.mk hr0
  have HC0 := Aside0.mk hc0
  clear hr0 hc0
  have HB := Aside0.mk (Below.refl w.heap.size w)
  have H : ((spec_l11Reached.f k l0 0).bind fun t223 => (spec_l11Ahead.l0 k l0 a1 ([] : List Int) t223 (t223.length : Int) 0)) = some r := h
  clear h
  replace H := Option.bind_eq_some_iff.mp H
  obtain ⟨t223, A30, H⟩ := H
  replace H : (spec_l11Ahead.l0 k l0 a1 ([] : List Int) t223 (t223.length : Int) 0) = some r := H
  have A3 := Aside0.mk A30
  clear A30
  have H' := Aside0.mk H
  clear H
  go_enter Try.func58, Try.ntmps58
  go_wp2_with (first | ((with_reducible refine gate_callee (f := 48) rfl ?_); refine goesL_ (some 9) rfl rfl Try.func48 (by kernel_rfl) rfl #[.slice A0 l0.length c0, .int .i64 0] rfl (by (try simp only [List.map_toArray, List.map_cons, List.map_nil]); first | done | rfl | (simp only [List.length_drop, List.length_take]; rfl)) ?_; (with_reducible refine (spec_l11Reached.calls k _ _ l0 0 t223 _ ?side1 ?side2 A3.out).mono ?_); (case side1 => repeat (first | exact HR0.out | (with_reducible refine Kd.C_alloc ?_ _) | (with_reducible refine Kd.C_drewN ?_ _) | (with_reducible refine Kd.C_drew ?_))); (case side2 => exact HC0.out); rintro e w4 ⟨v224, rfl, ho0, hb⟩; refine ⟨_, rfl, ?_⟩; have n0_ := Aside0.mk (Kd.R_lower ho0 (below_size (bq_))); have n1_ := Aside0.mk (below_step (bq_) hb); clear HB; have HO225 := n0_; have HB := n1_; clear n0_ n1_; (try clear hb); (try clear hb2); (try clear hk); (try clear hi); (try clear ho0); obtain ⟨Ao5, co5, eo5⟩ := Kd.R_slice HO225.out; subst eo5))
  go_loopg [5, 11] k (fun kq v5 v11 w' => ∃ (x5_1 : List Int) (x11_1 : Int), v11 = .int .i64 x11_1 ∧ Aside0 (spec_l11Ahead.l0 kq l0 a1 x5_1 t223 (t223.length : Int) x11_1 = some r) ∧ Aside0 (kq ≤ k) ∧ Aside0 (Kd.R (Kd.int .i64) 3 w' w.heap.size (fun k_ => some k_ ≠ ((.slice Ao5 t223.length co5) : Value).ownBlock) v5 x5_1) ∧ Aside0 (Kd.R (Kd.int .i64) 3 w' w.heap.size (fun k_ => some k_ ≠ (v5 : Value).ownBlock) (.slice Ao5 t223.length co5) t223) ∧ Aside0 (Below w.heap.size w w'))
  case atStart => exact ⟨(([] : List Int)), (0), (by first | rfl | (simp; done) | (simp [*]; done)), H', ⟨Nat.le_refl _⟩, ⟨by first | exact Kd.R_nil _ _ _ _ _ | exact Kd.N_nil _ _ _ _ _ | exact Kd.V_nil _ _ _ _ _ | exact Kd.Q_nil _ _ _ _ _ | exact Kd.S_nil _ _ _ _ _⟩, ⟨rq_ (Kd.R_mono HO225.out (fun _ hk => (by simp [Value.ownBlock])))⟩, ⟨bq_⟩⟩
  case round =>
    clear H'
    try clear p2
    try clear c4
    try clear c5
    obtain ⟨x5_1, x11_1, rfl, HA, HK1, HO_5, HO_9, HB⟩ := hrel
    cases gk with
    | zero => exact absurd HA.out (by simp [spec_l11Ahead.l0])
    | succ k1 =>
      have H := HA.out
      clear HA
      simp only [spec_l11Ahead.l0] at H
      by_cases c6 : x11_1 < (t223.length : Int)
      · rw [if_pos c6] at H
        have c6b0 : decide (x11_1 < (t223.length : Int)) = true := decide_eq_true c6
        clear c6
        by_cases c7 : 0 ≤ x11_1
        · rw [if_pos c7] at H
          have c7b0 : decide (0 ≤ x11_1) = true := decide_eq_true c7
          clear c7
          by_cases c8 : x11_1 < (t223.length : Int)
          · rw [if_pos c8] at H
            have c8b0 : decide (x11_1 < (t223.length : Int)) = true := decide_eq_true c8
            clear c8
            replace H := Option.bind_eq_some_iff.mp H
            obtain ⟨t227, A90, H⟩ := H
            replace H : ((spec_l1Has.f k1 t227 a1).bind fun t230 => (if t230 = true then (if x5_1.length < 17592186044416 then (spec_l11Ahead.l0 k1 l0 a1 (x5_1 ++ [rd t223 x11_1]) t223 (t223.length : Int) (wrap64 (x11_1 + 1))) else (none)) else (spec_l11Ahead.l0 k1 l0 a1 x5_1 t223 (t223.length : Int) (wrap64 (x11_1 + 1))))) = some r := H
            have A9 := Aside0.mk A90
            clear A90
            replace H := Option.bind_eq_some_iff.mp H
            obtain ⟨t230, A100, H⟩ := H
            replace H : (if t230 = true then (if x5_1.length < 17592186044416 then (spec_l11Ahead.l0 k1 l0 a1 (x5_1 ++ [rd t223 x11_1]) t223 (t223.length : Int) (wrap64 (x11_1 + 1))) else (none)) else (spec_l11Ahead.l0 k1 l0 a1 x5_1 t223 (t223.length : Int) (wrap64 (x11_1 + 1)))) = some r := H
            have A10 := Aside0.mk A100
            clear A100
            by_cases c11 : t230 = true
            · subst c11
              have H1 : (if x5_1.length < 17592186044416 then (spec_l11Ahead.l0 k1 l0 a1 (x5_1 ++ [rd t223 x11_1]) t223 (t223.length : Int) (wrap64 (x11_1 + 1))) else (none)) = some r := by rw [if_pos rfl] at H; exact H
              clear H
              have H := H1
              clear H1
              by_cases c12 : x5_1.length < 17592186044416
              · rw [if_pos c12] at H
                have LMc12 := Aside0.mk c12
                clear c12
                obtain ⟨y231, hy231⟩ : ∃ y_ : List Int, y_ = (x5_1 ++ [rd t223 x11_1]) := ⟨_, rfl⟩
                replace H : (spec_l11Ahead.l0 k1 l0 a1 y231 t223 (t223.length : Int) (wrap64 (x11_1 + 1))) = some r := by first | (rw [hy231]; with_reducible exact H) | (have H2_ := (Option.bind_some _ _).symm.trans H; rw [hy231]; with_reducible exact H2_) | (have H2_ := (Option.bind_some _ _).symm.trans H; with_reducible exact H2_) | with_reducible exact H | (rw [hy231]; exact H) | exact H
                have Ny231 := Aside0.mk hy231
                clear hy231
                have H' := Aside0.mk H
                clear H
                have p226 : 0 ≤ (x11_1 : Int) := of_decide_eq_true (by first | (with_reducible assumption) | assumption)
                have q226 : x11_1 < (t223.length : Int) := of_decide_eq_true (by first | (with_reducible assumption) | assumption)
                obtain ⟨ad226, e226, hx226_0⟩ := Kd.at_int (Kd.R_reads' HO_9.out).2.2 x11_1 p226 q226
                cases e226
                replace p226 := eq_true p226
                replace q226 := eq_true q226
                go_wp2_with (first | ((with_reducible refine gate_callee (f := 42) rfl ?_); refine goesL_ (some 17) rfl rfl Try.func42 (by kernel_rfl) rfl #[.slice A0 l0.length c0, .int .i64 (rd t223 x11_1)] rfl (by (try simp only [List.map_toArray, List.map_cons, List.map_nil]); first | done | rfl | (simp only [List.length_drop, List.length_take]; rfl)) ?_; (with_reducible refine (spec_l2Nexts.calls _ _ l0 (rd t223 x11_1) t227 _ ?side1 ?side2 A9.out).mono ?_); (case side1 => repeat (first | exact (Kd.C_below HR0.out HB.out) | (with_reducible refine Kd.C_alloc ?_ _) | (with_reducible refine Kd.C_drewN ?_ _) | (with_reducible refine Kd.C_drew ?_))); (case side2 => exact HC0.out); rintro e w13 ⟨v228, rfl, ho0, hb⟩; refine ⟨_, rfl, ?_⟩; have n0_ := Aside0.mk (Kd.R_elder' (rq_ HO_5.out) (Kd.R_base ho0) hb); have n1_ := Aside0.mk (Kd.R_elder' (rq_ HO_9.out) (Kd.R_base ho0) hb); have n2_ := Aside0.mk (Kd.R_lower (Kd.R_new' (Kd.R_new' ho0 (Kd.R_lt (rq_ HO_5.out))) (Kd.R_lt (rq_ HO_9.out))) (below_size (bq_))); have n3_ := Aside0.mk (below_step (bq_) hb); clear HO_5; clear HO_9; clear HB; have HO_5 := n0_; have HO_9 := n1_; have HO229 := n2_; have HB := n3_; clear n0_ n1_ n2_ n3_; (try clear hb); (try clear hb2); (try clear hk); (try clear hi); (try clear ho0); obtain ⟨Ao14, co14, eo14⟩ := Kd.R_slice HO229.out; subst eo14) | ((with_reducible refine gate_callee (f := 55) rfl ?_); refine goesL_ (some 19) rfl rfl Try.func55 (by kernel_rfl) rfl #[.slice Ao14 t227.length co14, .int .i64 a1] rfl (by (try simp only [List.map_toArray, List.map_cons, List.map_nil]); first | done | rfl | (simp only [List.length_drop, List.length_take]; rfl)) ?_; (with_reducible refine (spec_l1Has.calls k1 _ _ t227 a1 true _ ?side1 ?side2 A10.out).mono ?_); (case side1 => repeat (first | exact (Kd.R_reads' HO229.out).2.2 | (with_reducible refine Kd.C_alloc ?_ _) | (with_reducible refine Kd.C_drewN ?_ _) | (with_reducible refine Kd.C_drew ?_))); (case side2 => exact (Kd.R_reads' HO229.out).2.1); rintro e w' ⟨rfl, ⟨nd, rfl⟩⟩; refine ⟨_, rfl, ?_⟩) | ((with_reducible refine gate_builtin (b := .append) (xs := #[.tmp 20, .tmp 22]) rfl ?_); at_builtin; refine Kd.R_append (Kd.int .i64) (w0 := w) w.heap.size rfl (.tmp 20) (.tmp 22) 30 3 (.int .i64 0) 8 rfl Try.underlying30 info3 rfl (by decide) (by omega) u5 x5_1 (rd t223 x11_1) [.int .i64 (rd t223 x11_1)] (fun k_ => some k_ ≠ (.slice (some ad226) t223.length co5 : Value).ownBlock ∧ some k_ ≠ (.slice Ao14 t227.length co14 : Value).ownBlock) (fun _ => False) rfl rfl ?aP (fun _ hk => hk.elim) ?aF ?aO ?aB ?aS ?aL ?_; (case aP => exact rfl); (case aB => exact (bq_)); (case aF => exact (fun k_ hk => ⟨Kd.fresh' (Kd.R_lt (rq_ HO_9.out)) k_ hk, Kd.fresh' (Kd.R_lt (rq_ HO229.out)) k_ hk⟩)); (case aO => exact (rq_ HO_5.out)); (case aS => exact (below_size (bq_))); (case aL => have := LMc12.out; omega); intro v232 w15 ho hb hg hat; rw [← Ny231.out] at ho; have n0_ := Aside0.mk (Kd.R_after (ok := (fun k_ => some k_ ≠ (.slice Ao14 t227.length co14 : Value).ownBlock)) (rq_ (Kd.R_mono HO_9.out (fun _ hk => ⟨hk.2, hk.1⟩))) hg hat); have n1_ := Aside0.mk (Kd.R_after (ok := (fun k_ => some k_ ≠ (.slice (some ad226) t223.length co5 : Value).ownBlock)) (rq_ (Kd.R_mono HO229.out (fun _ hk => ⟨hk.2, hk.1.2⟩))) hg hat); have n2_ := Aside0.mk (hb); have n3_ := Aside0.mk (ho); clear HO_9; clear HO229; clear HB; clear HO_5; have HO_9 := n0_; have HO229 := n1_; have HB := n2_; have HO233 := n3_; clear n0_ n1_ n2_ n3_; clear ho hb hg hat))
                go_roundg k1
                case measure => have := HK1.out; omega
                case rel => exact ⟨(y231), (wrap64 (x11_1 + 1)), (by first | rfl | (simp; done) | (simp [*]; done)), H', ⟨by have := HK1.out; omega⟩, ⟨rq_ (Kd.R_mono HO233.out (fun _ hk => hk.1))⟩, ⟨rq_ (Kd.R_mono HO_9.out (fun _ hk => hk.2))⟩, ⟨bq_⟩⟩
              · rw [if_neg c12] at H
                exact absurd H (by simp)
            · replace c11 := Bool.eq_false_iff.mpr c11
              subst c11
              have H1 : (spec_l11Ahead.l0 k1 l0 a1 x5_1 t223 (t223.length : Int) (wrap64 (x11_1 + 1))) = some r := by rw [if_neg (show ¬ (false = true) by decide)] at H; exact H
              clear H
              have H := H1
              clear H1
              have H' := Aside0.mk H
              clear H
              have p226 : 0 ≤ (x11_1 : Int) := of_decide_eq_true (by first | (with_reducible assumption) | assumption)
              have q226 : x11_1 < (t223.length : Int) := of_decide_eq_true (by first | (with_reducible assumption) | assumption)
              obtain ⟨ad226, e226, hx226_0⟩ := Kd.at_int (Kd.R_reads' HO_9.out).2.2 x11_1 p226 q226
              cases e226
              replace p226 := eq_true p226
              replace q226 := eq_true q226
              go_wp2_with (first | ((with_reducible refine gate_callee (f := 42) rfl ?_); refine goesL_ (some 17) rfl rfl Try.func42 (by kernel_rfl) rfl #[.slice A0 l0.length c0, .int .i64 (rd t223 x11_1)] rfl (by (try simp only [List.map_toArray, List.map_cons, List.map_nil]); first | done | rfl | (simp only [List.length_drop, List.length_take]; rfl)) ?_; (with_reducible refine (spec_l2Nexts.calls _ _ l0 (rd t223 x11_1) t227 _ ?side1 ?side2 A9.out).mono ?_); (case side1 => repeat (first | exact (Kd.C_below HR0.out HB.out) | (with_reducible refine Kd.C_alloc ?_ _) | (with_reducible refine Kd.C_drewN ?_ _) | (with_reducible refine Kd.C_drew ?_))); (case side2 => exact HC0.out); rintro e w16 ⟨v228, rfl, ho0, hb⟩; refine ⟨_, rfl, ?_⟩; have n0_ := Aside0.mk (Kd.R_elder' (rq_ HO_5.out) (Kd.R_base ho0) hb); have n1_ := Aside0.mk (Kd.R_elder' (rq_ HO_9.out) (Kd.R_base ho0) hb); have n2_ := Aside0.mk (Kd.R_lower (Kd.R_new' (Kd.R_new' ho0 (Kd.R_lt (rq_ HO_5.out))) (Kd.R_lt (rq_ HO_9.out))) (below_size (bq_))); have n3_ := Aside0.mk (below_step (bq_) hb); clear HO_5; clear HO_9; clear HB; have HO_5 := n0_; have HO_9 := n1_; have HO229 := n2_; have HB := n3_; clear n0_ n1_ n2_ n3_; (try clear hb); (try clear hb2); (try clear hk); (try clear hi); (try clear ho0); obtain ⟨Ao17, co17, eo17⟩ := Kd.R_slice HO229.out; subst eo17) | ((with_reducible refine gate_callee (f := 55) rfl ?_); refine goesL_ (some 19) rfl rfl Try.func55 (by kernel_rfl) rfl #[.slice Ao17 t227.length co17, .int .i64 a1] rfl (by (try simp only [List.map_toArray, List.map_cons, List.map_nil]); first | done | rfl | (simp only [List.length_drop, List.length_take]; rfl)) ?_; (with_reducible refine (spec_l1Has.calls k1 _ _ t227 a1 false _ ?side1 ?side2 A10.out).mono ?_); (case side1 => repeat (first | exact (Kd.R_reads' HO229.out).2.2 | (with_reducible refine Kd.C_alloc ?_ _) | (with_reducible refine Kd.C_drewN ?_ _) | (with_reducible refine Kd.C_drew ?_))); (case side2 => exact (Kd.R_reads' HO229.out).2.1); rintro e w' ⟨rfl, ⟨nd, rfl⟩⟩; refine ⟨_, rfl, ?_⟩))
              go_roundg k1
              case measure => have := HK1.out; omega
              case rel => exact ⟨(x5_1), (wrap64 (x11_1 + 1)), (by first | rfl | (simp; done) | (simp [*]; done)), H', ⟨by have := HK1.out; omega⟩, ⟨rq_ (Kd.R_mono HO_5.out (fun _ hk => hk.1))⟩, ⟨rq_ (Kd.R_mono HO_9.out (fun _ hk => hk.1))⟩, ⟨bq_⟩⟩
          · rw [if_neg c8] at H
            exact absurd H (by simp)
        · rw [if_neg c7] at H
          exact absurd H (by simp)
      · rw [if_neg c6] at H
        have c6b0 : decide (x11_1 < (t223.length : Int)) = false := decide_eq_false c6
        clear c6
        obtain rfl := Option.some.inj H
        go_wp2
        go_ret
        exact ⟨_, by first | rfl | (simp [errW_none, errW_some] <;> rfl) | (simp [*, errW_none, errW_some] <;> rfl), rq_ (Kd.R_mono HO_5.out (fun _ hk => trivial)), bq_⟩

/-! ### spec_l11Must: function 62 -/
section
variable {α : Type} {d : Kd α} {e e2 base g cap n : Nat} {ok : Nat → Prop} {W : World}
/-- An own row that is laid behind a block is none of that block's. -/
theorem spec_l11Must.R_ne {v : Value} {xs : List α} (h : Kd.R d e W base ok v xs) (hg : g < base) : Kd.R d e W base (fun k => ok k ∧ k ≠ g) v xs :=
  Kd.R_mono (Kd.R_bound h) (fun k hk => ⟨hk.1, by have := hk.2.1; omega⟩)
/-- One cell's element is laid into a row. -/
theorem spec_l11Must.R_put1 {β : Type} {dd : Kd β} (hsz : dd.sz = 1) {ys : List β} (h : Kd.R dd e2 W base ok (.slice (some ⟨g, 0, none⟩) n cap) ys) (i : Nat) (v : Value) (y : β) (hv : dd.M W base (fun k => ok k ∧ k ≠ g) y [v]) :
    Kd.R dd e2 (W.setCell ⟨g, i, none⟩ v) base ok (.slice (some ⟨g, 0, none⟩) n cap) (ys.set i y) := by
  obtain rfl := (Kd.R_reads' h).1
  obtain ⟨h0, inner, ho, hr⟩ := h
  rw [hsz] at ho hr
  have hs := ho.stored i v
  have hl : inner.length = ys.length * 1 := hr.1
  have hm : ∀ (z : β) (cs : List Value), dd.M W base (fun k => ok k ∧ some k ≠ (Value.slice (some ⟨g, 0, none⟩) ys.length cap).ownBlock) z cs → dd.M (W.setCell ⟨g, i, none⟩ v) base (fun k => ok k ∧ some k ≠ (Value.slice (some ⟨g, 0, none⟩) ys.length cap).ownBlock) z cs := fun z cs hz => Kd.M_far hz (p := ⟨g, i, none⟩) (fun k hk e' => hk.2 (by rw [e']; rfl)) v
  refine ⟨h0, inner.set i v, by rw [hsz, List.length_set]; exact hs.1, ?_⟩
  rw [hsz]
  refine ⟨by rw [List.length_set, List.length_set]; exact hr.1, fun j p hj => ?_⟩
  rw [List.getElem?_set] at hj
  by_cases hij : i = j
  · subst hij
    rw [if_pos rfl] at hj
    by_cases hi : i < ys.length
    · rw [if_pos hi] at hj
      obtain rfl := Option.some.inj hj
      have e1 : ((inner.set i v).drop (i * 1)).take 1 = [v] := by
        rw [Nat.mul_one, List.drop_eq_getElem_cons (by rw [List.length_set]; omega), List.getElem_set_self]
        rfl
      rw [e1]
      exact hm _ _ (dd.M_mono (fun k hk => ⟨hk.1, fun e' => hk.2 (by simpa [Value.ownBlock] using e')⟩) hv)
    · rw [if_neg hi] at hj; cases hj
  · rw [if_neg hij] at hj
    have hjl : j < ys.length := (List.getElem?_eq_some_iff.1 hj).1
    have e1 : ((inner.set i v).drop (j * 1)).take 1 = (inner.drop (j * 1)).take 1 := by
      rw [Nat.mul_one, List.drop_eq_getElem_cons (show j < (inner.set i v).length by rw [List.length_set]; omega), List.drop_eq_getElem_cons (show j < inner.length by omega), List.getElem_set_ne hij]
      rfl
    rw [e1]
    exact hm _ _ (hr.2 j p hj)
theorem spec_l11Must.zip_set {β : Type} (xs : List β) (i : Nat) (x : β) : xs.zipIdx.set i (x, i) = (xs.set i x).zipIdx := by
  refine List.ext_getElem? (fun j => ?_)
  rw [List.getElem?_set, List.getElem?_zipIdx, List.getElem?_zipIdx, List.getElem?_set, List.length_zipIdx]
  by_cases h : i = j
  · subst h
    rw [if_pos rfl, if_pos rfl]
    split <;> simp
  · rw [if_neg h, if_neg h]
/-- A new row is laid into a row of rows that lie apart. -/
theorem spec_l11Must.S_putr {W1 : World} {xs : List (List α)} (hE : d.E = []) (h : Kd.S (Kd.slice e d) e2 W base (fun _ => True) (.slice (some ⟨g, 0, none⟩) n cap) xs) (hb : Below W.heap.size W W1) (hbase : base ≤ W.heap.size) (i : Nat) (v : Value) (x : List α) (hv : Kd.R d e W1 W.heap.size (fun _ => True) v x) :
    Kd.S (Kd.slice e d) e2 (W1.setCell ⟨g, i, none⟩ v) base (fun _ => True) (.slice (some ⟨g, 0, none⟩) n cap) (xs.set i x) := by
  have hgl := Kd.S_lt h g rfl
  obtain ⟨f, h⟩ := h
  refine ⟨fun k => if k < W.heap.size then f k else i, ?_⟩
  rw [← spec_l11Must.zip_set]
  have h2 := Kd.R_below (Kd.R_tag (f' := fun k => if k < W.heap.size then f k else i) h (fun k _ hk => if_pos hk)) hb
  refine spec_l11Must.R_put1 rfl h2 i v (x, i) ⟨v, rfl, ?_⟩
  have ht := Kd.R_lower (Kd.R_tight hE hv) hbase
  refine Kd.R_mono ht (fun k hk => ?_)
  have := Kd.R_base hv k hk.symm
  exact ⟨⟨trivial, by omega⟩, if_neg (by omega)⟩
/-- A row of a row of rows. -/
theorem spec_l11Must.R_getr {xs : List (List α)} (h : Kd.R (Kd.slice e d) e2 W base ok (.slice (some ⟨g, 0, none⟩) n cap) xs) (i : Nat) (hi : i < xs.length) :
    ∃ v, W.cell? ⟨g, i, none⟩ = some v ∧ W.frozen? ⟨g, i, none⟩ = false ∧ Kd.R d e W base (fun k => ok k ∧ k ≠ g) v (xs.getD i []) := by
  obtain rfl := (Kd.R_reads' h).1
  obtain ⟨h0, inner, ho, hr⟩ := h
  have e0 : xs[i]? = some (xs.getD i []) := by simp [List.getD, hi]
  obtain ⟨v, e1, h1⟩ := hr.2 i _ e0
  have hl : inner.length = xs.length * 1 := hr.1
  replace e1 : (inner.drop (i * 1)).take 1 = [v] := e1
  rw [Nat.mul_one, List.drop_eq_getElem_cons (show i < inner.length by omega)] at e1
  have e2 : inner[i]'(by omega) = v := (List.cons.inj e1).1
  rcases ho.2 with ⟨hn, hz⟩ | ⟨g', cap', cur, hv, hb, hh, hc1, hc2, hc3, hc4⟩
  · omega
  · injection hv with hv
    injection hv with hv
    injection hv with hv
    subst hv
    have e3 : cur[i]? = some v := by
      have : inner[i]? = some v := by rw [List.getElem?_eq_getElem (show i < inner.length by omega), e2]
      rw [← hc4, List.getElem?_take] at this
      split at this
      · simpa using this
      · cases this
    exact ⟨v, (blk_cell hh i).trans e3, blk_frozen hh i, Kd.R_mono h1 (fun k hk => ⟨hk.1, fun e' => hk.2 (by rw [e']; rfl)⟩)⟩
end
/-- What stands while the rows are laid: the row of rows, what is reached, and that all older things are as they were. -/
def spec_l11Must.St (w W : World) (go n cb : Nat) (rows : List (List Int)) (A : Option Addr) (c : Nat) (q : List Int) : Prop :=
  Kd.S (Kd.slice 3 (Kd.int .i64)) 30 W w.heap.size (fun _ => True) (.slice (some ⟨go, 0, none⟩) n cb) rows ∧ Kd.R (Kd.int .i64) 3 W w.heap.size (fun k => k ≠ go) (.slice A q.length c) q ∧ Below w.heap.size w W
theorem spec_l11Must.St.below {w W W' : World} {go n cb : Nat} {rows : List (List Int)} {A : Option Addr} {c : Nat} {q : List Int} (h : spec_l11Must.St w W go n cb rows A c q) (hb : Below W.heap.size W W') : spec_l11Must.St w W' go n cb rows A c q :=
  ⟨Kd.S_below h.1 hb, Kd.R_below h.2.1 hb, below_step h.2.2 hb⟩
theorem spec_l11Must.St.go_le {w W : World} {go n cb : Nat} {rows : List (List Int)} {A : Option Addr} {c : Nat} {q : List Int} (h : spec_l11Must.St w W go n cb rows A c q) : w.heap.size ≤ go := Kd.S_base h.1 go rfl
theorem spec_l11Must.St.put {w W W1 : World} {go n cb : Nat} {rows : List (List Int)} {A : Option Addr} {c : Nat} {q : List Int} (h : spec_l11Must.St w W go n cb rows A c q) (hb : Below W.heap.size W W1) {v : Value} {x : List Int} (hv : Kd.R (Kd.int .i64) 3 W1 W.heap.size (fun _ => True) v x) (i : Nat) : spec_l11Must.St w (W1.setCell ⟨go, i, none⟩ v) go n cb (rows.set i x) A c q :=
  ⟨spec_l11Must.S_putr rfl h.1 hb (below_size h.2.2) i v x hv, Kd.R_far (Kd.R_below h.2.1 hb) (p := ⟨go, i, none⟩) (fun k hk => hk) v, below_set (below_step h.2.2 hb) h.go_le⟩
def spec_l11Must.l2 : Nat → List Int → List Int → List Int → Int → Option (List Int)
  | 0, _, _, _, _ => none
  | k + 1, row, all, both, x => if x < (all.length : Int) then (if 0 ≤ x then ((spec_l1Has.f k row (rd all x)).bind fun t => (if t = true then (if both.length < 17592186044416 then spec_l11Must.l2 k row all (both ++ [rd all x]) (wrap64 (x + 1)) else none) else spec_l11Must.l2 k row all both (wrap64 (x + 1)))) else none) else some both
theorem spec_l11Must.l2_mono : ∀ k row all both x, LeO (spec_l11Must.l2 k row all both x) (spec_l11Must.l2 (k + 1) row all both x)
  | 0 => fun _ _ _ _ r h => by simp [spec_l11Must.l2] at h
  | k + 1 => by
    have ih := spec_l11Must.l2_mono k
    intro row all both x
    unfold spec_l11Must.l2
    exact LeO.ite (LeO.ite (LeO.bind (spec_l1Has.mono _ _ _) (fun _ => LeO.ite (LeO.ite (ih _ _ _ _) (LeO.none _)) (ih _ _ _ _))) (LeO.none _)) (LeO.refl _)
def spec_l11Must.l1 : Nat → List (List Int) → List Int → List Int → Int → Option (List Int)
  | 0, _, _, _, _ => none
  | k + 1, rows, a, all, x => if x < (a.length : Int) then (if 0 ≤ x then (if 0 ≤ rd a x then (if rd a x < (rows.length : Int) then (if x = 0 then spec_l11Must.l1 k rows a (rows.getD (rd a x).toNat []) (wrap64 (x + 1)) else ((spec_l11Must.l2 k (rows.getD (rd a x).toNat []) all [] 0).bind fun b => spec_l11Must.l1 k rows a b (wrap64 (x + 1)))) else none) else none) else none) else some all
theorem spec_l11Must.l1_mono : ∀ k rows a all x, LeO (spec_l11Must.l1 k rows a all x) (spec_l11Must.l1 (k + 1) rows a all x)
  | 0 => fun _ _ _ _ r h => by simp [spec_l11Must.l1] at h
  | k + 1 => by
    have ih := spec_l11Must.l1_mono k
    intro rows a all x
    unfold spec_l11Must.l1
    exact LeO.ite (LeO.ite (LeO.ite (LeO.ite (LeO.ite (ih _ _ _ _) (LeO.bind (spec_l11Must.l2_mono _ _ _ _ _) (fun _ => ih _ _ _ _))) (LeO.none _)) (LeO.none _)) (LeO.none _)) (LeO.refl _)
def spec_l11Must.l0 : Nat → List S51 → List Int → List (List Int) → Int → Option (List (List Int))
  | 0, _, _, _, _ => none
  | k + 1, l, q, rows, x => if x < (q.length : Int) then (if 0 ≤ x then ((spec_l11Ahead.f k l (rd q x)).bind fun a => ((spec_l11Must.l1 k rows a [] 0).bind fun all => if 0 ≤ rd q x then (if rd q x < (rows.length : Int) then (if all.length < 1099511627776 then spec_l11Must.l0 k l q (rows.set (rd q x).toNat (all ++ [rd q x])) (wrap64 (x + 1)) else none) else none) else none)) else none) else some rows
theorem spec_l11Must.l0_mono : ∀ k l q rows x, LeO (spec_l11Must.l0 k l q rows x) (spec_l11Must.l0 (k + 1) l q rows x)
  | 0 => fun _ _ _ _ r h => by simp [spec_l11Must.l0] at h
  | k + 1 => by
    have ih := spec_l11Must.l0_mono k
    intro l q rows x
    unfold spec_l11Must.l0
    exact LeO.ite (LeO.ite (LeO.bind (spec_l11Ahead.mono _ _ _) (fun _ => LeO.bind (spec_l11Must.l1_mono _ _ _ _ _) (fun _ => LeO.ite (LeO.ite (LeO.ite (ih _ _ _ _) (LeO.none _)) (LeO.none _)) (LeO.none _)))) (LeO.none _)) (LeO.refl _)
def spec_l11Must.f (k : Nat) (l0 : List (S51)) : Option (List (List Int)) := if 0 < l0.length ∧ l0.length ≤ 1099511627776 then ((spec_l11Reached.f k l0 0).bind fun q => spec_l11Must.l0 k l0 q (List.replicate l0.length []) 0) else none
theorem spec_l11Must.mono : ∀ a0 k, LeO (spec_l11Must.f k a0) (spec_l11Must.f (k + 1) a0) := by
  intro a0 k
  unfold spec_l11Must.f
  exact LeO.ite (LeO.bind (spec_l11Reached.mono _ _ _) (fun _ => spec_l11Must.l0_mono _ _ _ _ _)) (LeO.none _)
theorem spec_l11Must.info30 : (Try.prog.info? 30).map (fun i => (i.zero, i.size, i.bytes)) = some (some (.slice none 0 0), 1, 24) := by kernel_rfl
set_option maxHeartbeats 8000000 in
set_option maxRecDepth 100000 in
theorem spec_l11Must.calls (k : Nat) (A0 : Option Addr) (c0 : Nat) (l0 : List (S51)) (r : List (List Int)) (w : World) (hr0 : Kd.C k51 w A0 l0.length l0) (hc0 : l0.length ≤ c0) (h : spec_l11Must.f k l0 = some r) :
    Calls Try.prog 62 #[.slice A0 l0.length c0] w fun e w' => ∃ v0_ : Value, e = .returned (v0_) ∧ Kd.S (Kd.slice 3 (Kd.int .i64)) 30 w' w.heap.size (fun _ => True) v0_ r ∧ Below w.heap.size w w' := by
  have HR0 := Aside0.mk hr0
  have HC0 := Aside0.mk hc0
  clear hr0 hc0
  unfold spec_l11Must.f at h
  by_cases hl : 0 < l0.length ∧ l0.length ≤ 1099511627776
  · rw [if_pos hl] at h
    have HL := Aside0.mk hl
    clear hl
    obtain ⟨q, A80, H⟩ := Option.bind_eq_some_iff.mp h
    have A8 := Aside0.mk A80
    have H' := Aside0.mk H
    clear A80 h H
    go_enter Try.func62, Try.ntmps62
    go_wp2_with (first | ((with_reducible refine gate_dst (N := 14) rfl ?_); refine Kd.S_make (Kd.slice 3 (Kd.int .i64)) _ 30 rfl (N := 14) rfl 63 _ _ rfl (l0.length : Int) rfl rfl Try.underlying63 (.slice none 0 0) 24 spec_l11Must.info30 rfl (by decide) (by omega) [] (ok := fun _ => True) (okp := fun _ => True) ⟨_, rfl, Kd.R_nil _ _ _ _ _⟩ (fun _ hk => hk) trivial (Int.natCast_nonneg _) (by have := HL.out.2; simp only [Int.toNat_natCast]; omega) (Below.refl _ _) (Nat.le_refl _) ?_; intro v7 w7 ho hb hg_ hnew_; clear hg_ hnew_; simp only [Int.toNat_natCast] at ho; obtain ⟨go, cb, eo, gb_, gl_, cl_⟩ := Kd.S_form ho (by rw [List.length_replicate]; exact HL.out.1); clear gb_ gl_ cl_; rw [List.length_replicate] at eo; subst eo; have HO := Aside0.mk ho; have HB := Aside0.mk hb; clear ho hb) | (go_at_call 48; refine (spec_l11Reached.calls k _ _ l0 0 q _ (Kd.C_below HR0.out (bq_)) HC0.out A8.out).mono ?_; rintro e w5 ⟨v0, rfl, ho, hb⟩; obtain ⟨Aq, cq_, eo⟩ := Kd.R_slice ho; subst eo; have HS := Aside0.mk (show spec_l11Must.St w w5 go l0.length cb (List.replicate l0.length []) Aq cq_ q from ⟨Kd.S_below HO.out hb, Kd.R_mono (Kd.R_lower (spec_l11Must.R_ne ho (Kd.S_lt HO.out go rfl)) (below_size (bq_))) (fun k hk => hk.2), below_step (bq_) hb⟩); clear HB HO ho hb))
    go_loopg [18] k (fun kq v18 w' => ∃ (rows : List (List Int)) (x : Int), v18 = .int .i64 x ∧ Aside0 (spec_l11Must.l0 kq l0 q rows x = some r) ∧ Aside0 (kq ≤ k) ∧ Aside0 (spec_l11Must.St w w' go l0.length cb rows Aq cq_ q))
    case atStart => exact ⟨_, _, (by first | rfl | (simp; done) | (simp [*]; done)), H', ⟨Nat.le_refl _⟩, ⟨(by first | exact HS.out | exact HS.out.below (by repeat (first | exact Below.refl _ _ | apply below_drew1 | apply pw_below_drewN | apply below_alloc)))⟩⟩
    case round =>
      clear H' HS A8
      obtain ⟨rows, x, rfl, HA, HK1, HS⟩ := hrel
      cases gk with
      | zero => exact absurd HA.out (by simp [spec_l11Must.l0])
      | succ k1 =>
        have H := HA.out
        clear HA
        simp only [spec_l11Must.l0] at H
        by_cases c4 : x < (q.length : Int)
        · rw [if_pos c4] at H
          have c4b0 : decide (x < (q.length : Int)) = true := decide_eq_true c4
          by_cases c5 : 0 ≤ x
          · rw [if_pos c5] at H
            obtain ⟨adq, e101, hxq⟩ := Kd.at_int (Kd.R_reads' HS.out.2.1).2.2 x c5 c4
            cases e101
            have p101 := eq_true c5
            have q101 := eq_true c4
            clear c4 c5
            obtain ⟨a, A80, H⟩ := Option.bind_eq_some_iff.mp H
            have A8 := Aside0.mk A80
            clear A80
            obtain ⟨all1, AL0, H⟩ := Option.bind_eq_some_iff.mp H
            have AL := Aside0.mk AL0
            clear AL0
            have H1' := Aside0.mk H
            clear H
            go_wp2_with (go_at_call 58; refine (spec_l11Ahead.calls k1 _ _ l0 (rd q x) a _ (Kd.C_below HR0.out HS.out.2.2) HC0.out A8.out).mono ?_; rintro e w6 ⟨v0, rfl, ho, hb⟩; obtain ⟨Aa, ca, eo⟩ := Kd.R_slice ho; subst eo; have n0_ := Aside0.mk (HS.out.below hb); have HA2 := Aside0.mk (Kd.R_reads' ho).2.2; have HCA := Aside0.mk (Kd.R_reads' ho).2.1; clear HS ho hb; have HS := n0_; clear n0_)
            clear hxq p101 q101 c4b0 A8
            go_loopg [6, 26] k1 (fun kq v6 v26 w' => ∃ (all : List Int) (x2 : Int) (Al : Option Addr) (cl : Nat), v6 = .slice Al all.length cl ∧ v26 = .int .i64 x2 ∧ Aside0 (spec_l11Must.l1 kq rows a all x2 = some all1) ∧ Aside0 (kq ≤ k1) ∧ Aside0 (spec_l11Must.St w w' go l0.length cb rows (some adq) cq_ q) ∧ Aside0 (Kd.C (Kd.int .i64) w' Aa a.length a) ∧ Aside0 (Kd.C (Kd.int .i64) w' Al all.length all) ∧ Aside0 (all.length ≤ cl))
            case atStart => exact ⟨[], _, none, 0, rfl, (by first | rfl | (simp; done) | (simp [*]; done)), AL, ⟨Nat.le_refl _⟩, ⟨(by first | exact HS.out | exact HS.out.below (by repeat (first | exact Below.refl _ _ | apply below_drew1 | apply pw_below_drewN | apply below_alloc)))⟩, ⟨(by first | exact HA2.out | exact Kd.C_below HA2.out (by repeat (first | exact Below.refl _ _ | apply below_drew1 | apply pw_below_drewN | apply below_alloc)))⟩, ⟨Kd.C_nil _ _⟩, ⟨Nat.le_refl _⟩⟩
            case round =>
              clear AL HS HA2
              obtain ⟨all, x2, Al, cl, rfl, rfl, HA, HK2, HS, HA2, HCL, HCC⟩ := hrel
              rename World => w2
              cases gk with
              | zero => exact absurd HA.out (by simp [spec_l11Must.l1])
              | succ k2 =>
                have H := HA.out
                clear HA
                simp only [spec_l11Must.l1] at H
                by_cases c6 : x2 < (a.length : Int)
                · rw [if_pos c6] at H
                  have c6b0 : decide (x2 < (a.length : Int)) = true := decide_eq_true c6
                  by_cases c7 : 0 ≤ x2
                  · rw [if_pos c7] at H
                    obtain ⟨ada, e102, hxa⟩ := Kd.at_int HA2.out x2 c7 c6
                    cases e102
                    have p102 := eq_true c7
                    have q102 := eq_true c6
                    clear c6 c7
                    by_cases c8 : 0 ≤ rd a x2
                    · rw [if_pos c8] at H
                      by_cases c9 : rd a x2 < (rows.length : Int)
                      · rw [if_pos c9] at H
                        have en : rows.length = l0.length := (Kd.S_reads' HS.out.1).1.symm
                        obtain ⟨vr, hcr, hfr, hrr⟩ := spec_l11Must.R_getr (Kd.S_R HS.out.1) (rd a x2).toNat (by omega)
                        obtain ⟨Ar, cr, er⟩ := Kd.R_slice hrr
                        subst er
                        have HRW := Aside0.mk (Kd.R_reads' hrr).2.2
                        have HCW := Aside0.mk (Kd.R_reads' hrr).2.1
                        rw [en] at c9
                        have p103 := eq_true c8
                        have q103 := eq_true c9
                        clear c8 c9 en hrr
                        by_cases c10 : x2 = 0
                        · rw [if_pos c10] at H
                          have c10b0 : decide (x2 = 0) = true := decide_eq_true c10
                          have c10b1 : (x2 == 0) = true := by rw [c10]; rfl
                          have H' := Aside0.mk H
                          clear H c10
                          go_wp2
                          go_roundg k2
                          case measure => have := HK2.out; omega
                          case rel => exact ⟨_, _, _, _, rfl, (by first | rfl | (simp; done) | (simp [*]; done)), H', ⟨by have := HK2.out; omega⟩, ⟨(by first | exact HS.out | exact HS.out.below (by repeat (first | exact Below.refl _ _ | apply below_drew1 | apply pw_below_drewN | apply below_alloc)))⟩, ⟨(by first | exact HA2.out | exact Kd.C_below HA2.out (by repeat (first | exact Below.refl _ _ | apply below_drew1 | apply pw_below_drewN | apply below_alloc)))⟩, ⟨by (with_reducible repeat (first | apply Kd.C_alloc | apply Kd.C_drewN | apply Kd.C_drew)); exact HRW.out⟩, HCW⟩
                        · rw [if_neg c10] at H
                          have c10b0 : decide (x2 = 0) = false := decide_eq_false c10
                          have c10b1 : (x2 == 0) = false := by simp [c10]
                          clear c10
                          obtain ⟨both1, AB0, H⟩ := Option.bind_eq_some_iff.mp H
                          have AB := Aside0.mk AB0
                          have H2' := Aside0.mk H
                          clear AB0 H
                          go_wp2
                          clear hxa p102 q102 c6b0 c10b0 c10b1
                          go_loopg [9, 39] k2 (fun kq v9 v39 w' => ∃ (both : List Int) (x3 : Int), v39 = .int .i64 x3 ∧ Aside0 (spec_l11Must.l2 kq (rows.getD (rd a x2).toNat []) all both x3 = some both1) ∧ Aside0 (kq ≤ k2) ∧ Aside0 (Kd.R (Kd.int .i64) 3 w' w2.heap.size (fun _ => True) v9 both) ∧ Aside0 (Below w2.heap.size w2 w'))
                          case atStart => exact ⟨[], _, (by first | rfl | (simp; done) | (simp [*]; done)), AB, ⟨Nat.le_refl _⟩, ⟨Kd.R_nil _ _ _ _ _⟩, ⟨by repeat (first | exact Below.refl _ _ | apply below_drew1 | apply pw_below_drewN | apply below_alloc)⟩⟩
                          case round =>
                            clear AB
                            obtain ⟨both, x3, rfl, HA, HK3, HO3, HB3⟩ := hrel
                            cases gk with
                            | zero => exact absurd HA.out (by simp [spec_l11Must.l2])
                            | succ k3 =>
                              have H := HA.out
                              clear HA
                              simp only [spec_l11Must.l2] at H
                              by_cases c11 : x3 < (all.length : Int)
                              · rw [if_pos c11] at H
                                have c11b0 : decide (x3 < (all.length : Int)) = true := decide_eq_true c11
                                by_cases c12 : 0 ≤ x3
                                · rw [if_pos c12] at H
                                  obtain ⟨adl, e103, hxl⟩ := Kd.at_int (Kd.C_below HCL.out HB3.out) x3 c12 c11
                                  cases e103
                                  have p104 := eq_true c12
                                  have q104 := eq_true c11
                                  clear c11 c12
                                  replace hcr := (HB3.out.cell (World.block_lt_of_cell? w2 _ hcr)).trans hcr
                                  obtain ⟨t, A140, H⟩ := Option.bind_eq_some_iff.mp H
                                  have A14 := Aside0.mk A140
                                  clear A140
                                  by_cases c14 : t = true
                                  · subst c14
                                    rw [if_pos rfl] at H
                                    by_cases c15 : both.length < 17592186044416
                                    · rw [if_pos c15] at H
                                      have LM3 := Aside0.mk c15
                                      have H' := Aside0.mk H
                                      clear H c15
                                      go_wp2_with (first | (go_at_call 55; refine (spec_l1Has.calls k3 _ _ (rows.getD (rd a x2).toNat []) (rd all x3) true _ (Kd.C_below HRW.out HB3.out) HCW.out A14.out).mono ?_; rintro e w' ⟨rfl, ⟨nd, rfl⟩⟩) | ((with_reducible refine gate_builtin (b := .append) (xs := #[.tmp 49, .tmp 51]) rfl ?_); at_builtin; refine Kd.R_append (Kd.int .i64) (w0 := w2) w2.heap.size rfl (.tmp 49) (.tmp 51) 30 3 (.int .i64 0) 8 rfl Try.underlying30 info3 rfl (by decide) (by omega) u9 both (rd all x3) [.int .i64 (rd all x3)] (fun _ => True) (fun _ => False) rfl rfl ?aP (fun _ hk => hk.elim) ?aF ?aO ?aB ?aS ?aL ?_; (case aP => exact rfl); (case aB => exact (by repeat (first | (with_reducible first | exact HB3.out | apply below_alloc | apply pw_below_drewN | apply below_drew1) | exact HB3.out))); (case aF => exact (fun _ _ => trivial)); (case aO => exact (rq_ HO3.out)); (case aS => exact (below_size (by repeat (first | (with_reducible first | exact HB3.out | apply below_alloc | apply pw_below_drewN | apply below_drew1) | exact HB3.out)))); (case aL => have := LM3.out; omega); intro v121 w13 ho hb hg hat; have n0_ := Aside0.mk hb; have n1_ := Aside0.mk ho; clear HB3 HO3; have HB3 := n0_; have HO3 := n1_; clear n0_ n1_ ho hb hg hat))
                                      go_roundg k3
                                      case measure => have := HK3.out; omega
                                      case rel => exact ⟨_, _, (by first | rfl | (simp; done) | (simp [*]; done)), H', ⟨by have := HK3.out; omega⟩, ⟨rq_ HO3.out⟩, ⟨by repeat (first | (with_reducible first | exact HB3.out | apply below_alloc | apply pw_below_drewN | apply below_drew1) | exact HB3.out)⟩⟩
                                    · rw [if_neg c15] at H; cases H
                                  · replace c14 := Bool.eq_false_iff.mpr c14
                                    subst c14
                                    rw [if_neg (by simp)] at H
                                    have H' := Aside0.mk H
                                    clear H
                                    go_wp2_with (go_at_call 55; refine (spec_l1Has.calls k3 _ _ (rows.getD (rd a x2).toNat []) (rd all x3) false _ (Kd.C_below HRW.out HB3.out) HCW.out A14.out).mono ?_; rintro e w' ⟨rfl, ⟨nd, rfl⟩⟩)
                                    go_roundg k3
                                    case measure => have := HK3.out; omega
                                    case rel => exact ⟨_, _, (by first | rfl | (simp; done) | (simp [*]; done)), H', ⟨by have := HK3.out; omega⟩, ⟨rq_ HO3.out⟩, ⟨by repeat (first | (with_reducible first | exact HB3.out | apply below_alloc | apply pw_below_drewN | apply below_drew1) | exact HB3.out)⟩⟩
                                · rw [if_neg c12] at H; cases H
                              · rw [if_neg c11] at H
                                have c11b0 : decide (x3 < (all.length : Int)) = false := decide_eq_false c11
                                clear c11
                                obtain rfl := Option.some.inj H
                                clear H
                                obtain ⟨Ab, cb2, eb⟩ := Kd.R_slice HO3.out
                                subst eb
                                go_wp2
                                go_roundg k2
                                case measure => have := HK2.out; omega
                                case rel => exact ⟨_, _, _, _, rfl, (by first | rfl | (simp; done) | (simp [*]; done)), H2', ⟨by have := HK2.out; omega⟩, ⟨HS.out.below (by repeat (first | (with_reducible first | exact HB3.out | apply below_alloc | apply pw_below_drewN | apply below_drew1) | exact HB3.out))⟩, ⟨Kd.C_below HA2.out (by repeat (first | (with_reducible first | exact HB3.out | apply below_alloc | apply pw_below_drewN | apply below_drew1) | exact HB3.out))⟩, ⟨by (with_reducible repeat (first | apply Kd.C_alloc | apply Kd.C_drewN | apply Kd.C_drew)); exact (Kd.R_reads' HO3.out).2.2⟩, ⟨(Kd.R_reads' HO3.out).2.1⟩⟩
                      · rw [if_neg c9] at H; cases H
                    · rw [if_neg c8] at H; cases H
                  · rw [if_neg c7] at H; cases H
                · rw [if_neg c6] at H
                  have c6b0 : decide (x2 < (a.length : Int)) = false := decide_eq_false c6
                  clear c6
                  obtain rfl := Option.some.inj H
                  clear H
                  have H := H1'.out
                  clear H1'
                  by_cases c20 : 0 ≤ rd q x
                  · rw [if_pos c20] at H
                    by_cases c21 : rd q x < (rows.length : Int)
                    · rw [if_pos c21] at H
                      by_cases c22 : all.length < 1099511627776
                      · rw [if_pos c22] at H
                        have LM2 := Aside0.mk c22
                        have H' := Aside0.mk H
                        have en : rows.length = l0.length := (Kd.S_reads' HS.out.1).1.symm
                        have spec_l11MustT := Aside0.mk (show (rd q x).toNat < rows.length from by omega)
                        rw [en] at c21
                        have p105 := eq_true c20
                        have q105 := eq_true c21
                        clear H c20 c21 c22 en
                        go_wp2_with (first | ((with_reducible refine gate_dst (N := 58) rfl ?_); refine Kd.R_lit (Kd.int .i64) _ 3 ?hg (N := 58) ?hd (xs := ([] : List Int)) (inner := []) (ok := fun _ => True) (okp := fun _ => True) ?hr ?hp (fun _ hk => hk) trivial (Below.refl _ _) (Nat.le_refl _) (by simp) ?_; (case hd => rfl); (case hg => rfl); (case hr => first | (go_simp; done) | (go_simp; rfl)); (case hp => exact (Reps.none _ _)); intro v58 w8 ho hb hg_ hnew_; clear hg_ hnew_; have HO := Aside0.mk ho; have HB := Aside0.mk hb; clear ho hb) | ((with_reducible refine gate_builtin (b := .append) (xs := #[.tmp 58, .tmp 59]) rfl ?_); at_builtin; refine Kd.R_append_rows (Kd.int .i64) (w0 := w2) w2.heap.size rfl (.tmp 58) (.tmp 59) 30 3 (.int .i64 0) 8 rfl Try.underlying30 info3 rfl (by decide) (by omega) v58 [] all _ _ _ (fun _ => True) (fun _ => False) rfl rfl ?aO ?aR (fun _ _ h => h) (fun _ h => h.elim) ?aF ?aB ?aS ?aL ?_; (case aR => exact Kd.C_below HCL.out (bq_)); (case aB => exact (bq_)); (case aF => exact (fun _ _ => trivial)); (case aO => exact HO.out); (case aS => exact (below_size (bq_))); (case aL => have := LM2.out; simp only [List.length_nil]; omega); intro v62 w9 ho hb hg hat; rw [List.nil_append] at ho; have n0_ := Aside0.mk ho; have n1_ := Aside0.mk hb; clear HO HB ho hb hg hat; have HO := n0_; have HB := n1_; clear n0_ n1_) | ((with_reducible refine gate_builtin (b := .append) (xs := #[.tmp 60, .tmp 62]) rfl ?_); at_builtin; refine Kd.R_append (Kd.int .i64) (w0 := w2) w2.heap.size rfl (.tmp 60) (.tmp 62) 30 3 (.int .i64 0) 8 rfl Try.underlying30 info3 rfl (by decide) (by omega) v62 all (rd q x) [.int .i64 (rd q x)] (fun _ => True) (fun _ => False) rfl rfl ?aP (fun _ hk => hk.elim) ?aF ?aO ?aB ?aS ?aL ?_; (case aP => exact rfl); (case aB => exact (bq_)); (case aF => exact (fun _ _ => trivial)); (case aO => exact (rq_ HO.out)); (case aS => exact (below_size (bq_))); (case aL => have := LM2.out; omega); intro v64 w10 ho hb hg hat; obtain ⟨A6, c6, e6⟩ := Kd.R_slice ho; subst e6; have n0_ := Aside0.mk ho; have n1_ := Aside0.mk hb; clear HO HB ho hb hg hat; have HO := n0_; have HB := n1_; clear n0_ n1_; obtain ⟨vz, hcz, hfz, hrz⟩ := spec_l11Must.R_getr (Kd.S_R (Kd.S_below HS.out.1 HB.out)) (rd q x).toNat spec_l11MustT.out; clear hrz) | ((with_reducible refine gate_store (t := 30) (p := 64) rfl ?_); refine store_event (t := 30) (p := 64) (v := ?vo_w11) (w1 := (w10.setCell ⟨go, (rd q x).toNat, none⟩ (.slice A6 (all ++ [rd q x]).length c6))) ?hg ?ho ?hn ?hr ?_; (case ho => rfl); (case hg => rfl); (case hn => rfl); (case hr => first | (go_simp; done) | (go_simp; rfl)); intro w11 hw; have n0_ := Aside0.mk (show spec_l11Must.St w w11 go l0.length cb (rows.set (rd q x).toNat (all ++ [rd q x])) (some adq) cq_ q from by rw [hw]; exact HS.out.put HB.out HO.out (rd q x).toNat); clear HS HB HO hw hcz hfz; have HS := n0_; clear n0_))
                        go_roundg k1
                        case measure => have := HK1.out; omega
                        case rel => exact ⟨_, _, (by first | rfl | (simp; done) | (simp [*]; done)), H', ⟨by have := HK1.out; omega⟩, ⟨(by first | exact HS.out | exact HS.out.below (by repeat (first | exact Below.refl _ _ | apply below_drew1 | apply pw_below_drewN | apply below_alloc)))⟩⟩
                      · rw [if_neg c22] at H; cases H
                    · rw [if_neg c21] at H; cases H
                  · rw [if_neg c20] at H; cases H
          · rw [if_neg c5] at H; cases H
        · rw [if_neg c4] at H
          have c4b0 : decide (x < (q.length : Int)) = false := decide_eq_false c4
          clear c4
          obtain rfl := Option.some.inj H
          clear H
          go_wp2
          go_ret
          exact ⟨_, by first | rfl | (simp; done) | (simp [*]; done), (show spec_l11Must.St w _ go l0.length cb rows Aq cq_ q from (by first | exact HS.out | exact HS.out.below (by repeat (first | exact Below.refl _ _ | apply below_drew1 | apply pw_below_drewN | apply below_alloc)))).1, (show spec_l11Must.St w _ go l0.length cb rows Aq cq_ q from (by first | exact HS.out | exact HS.out.below (by repeat (first | exact Below.refl _ _ | apply below_drew1 | apply pw_below_drewN | apply below_alloc)))).2.2⟩
  · rw [if_neg hl] at h; cases h

end Go.Proofs.Ytcmhkgpalfljbaa.PIN
