import Derived.Test.YtgahidilhjijiaaPGDx0
import Derived.Test.YtgahidilhjijiaaPGDx1
import Derived.Test.YtgahidilhjijiaaPGDx2
import Derived.Test.YtgahidilhjijiaaPGDx3
import Derived.Test.YtgahidilhjijiaaPGDx4
import Derived.Test.YtgahidilhjijiaaPGDx5
namespace Go.Proofs.Ytgahidilhjijiaa.PGD
open Go.RowKit Go.Proofs.YtgahidilhjijiaaW.PrintWords Go.Proofs.YtgahidilhjijiaaW.PrintLast Go.Proofs.YtgahidilhjijiaaW.PrintMore
attribute [local go_sem] max2_int min2_int max_two min_two max_three min_three max_four min_four   -- for this text's walks alone
set_option linter.unusedVariables false
set_option linter.unusedSimpArgs false
def laws_heldIntSS.l0 : Nat → List (List Int) → Int → Int → Option (Int)
  | 0, _, _, _ => none
  | k + 1, x0, x1, x5 => if x5 < (x0.length : Int) then (if 0 ≤ x5 then ((laws_heldIntS.f k (rd_L3 x0 x5) x1).bind fun t226 => (if t226 < 0 then (some (-1)) else (laws_heldIntSS.l0 k x0 t226 (wrap64 (x5 + 1))))) else (none)) else (some x1)
def laws_heldIntSS.f (k : Nat) (l0 : List (List Int)) (a1 : Int) : Option (Int) := laws_heldIntSS.l0 k l0 a1 0
set_option maxHeartbeats 8000000 in
set_option maxRecDepth 100000 in
theorem laws_heldIntSS.calls (k : Nat) (A0 : Option Addr) (c0 : Nat) (l0 : List (List Int)) (a1 : Int) (r : Int) (w : World) (hr0 : Kd.C (Kd.slice 3 (Kd.int .i64)) w A0 l0.length l0) (hc0 : l0.length ≤ c0) (h : laws_heldIntSS.f k l0 a1 = some r) :
    Calls Try.prog 15 #[.slice A0 l0.length c0, .int .i64 a1] w fun e w' => e = .returned (.int .i64 r) ∧ Drawn0 w w' := by
  have HR0 := Aside0.mk hr0
  have HC0 := Aside0.mk hc0
  clear hr0 hc0
  have H : (laws_heldIntSS.l0 k l0 a1 0) = some r := h
  clear h
  have H' := Aside0.mk H
  clear H
  go_enter Try.func15, Try.ntmps15
  go_wp2
  go_loopg [1, 5] k (fun kq v1 v5 w' => ∃ (x1_1 : Int) (x5_1 : Int), v1 = .int .i64 x1_1 ∧ v5 = .int .i64 x5_1 ∧ Aside0 (laws_heldIntSS.l0 kq l0 x1_1 x5_1 = some r) ∧ Aside0 (kq ≤ k) ∧ Drawn0 w w')
  case atStart => exact ⟨(a1), (0), (by first | rfl | (simp; done) | (simp [*]; done)), (by first | rfl | (simp; done) | (simp [*]; done)), H', ⟨Nat.le_refl _⟩, by repeat (first | exact Drawn0.refl _ | apply Drawn0.step)⟩
  case round =>
    clear H'
    try clear c1
    try clear p2
    obtain ⟨x1_1, x5_1, rfl, rfl, HA, HK1, ⟨m1, rfl⟩⟩ := hrel
    cases gk with
    | zero => exact absurd HA.out (by simp [laws_heldIntSS.l0])
    | succ k1 =>
      have H := HA.out
      clear HA
      simp only [laws_heldIntSS.l0] at H
      by_cases c3 : x5_1 < (l0.length : Int)
      · rw [if_pos c3] at H
        have c3b0 : decide (x5_1 < (l0.length : Int)) = true := decide_eq_true c3
        clear c3
        by_cases c4 : 0 ≤ x5_1
        · rw [if_pos c4] at H
          have c4b0 : decide (0 ≤ x5_1) = true := decide_eq_true c4
          clear c4
          replace H := Option.bind_eq_some_iff.mp H
          obtain ⟨t226, A50, H⟩ := H
          replace H : (if t226 < 0 then (some (-1)) else (laws_heldIntSS.l0 k1 l0 t226 (wrap64 (x5_1 + 1)))) = some r := H
          have A5 := Aside0.mk A50
          clear A50
          by_cases c6 : t226 < 0
          · rw [if_pos c6] at H
            have c6b0 : decide (t226 < 0) = true := decide_eq_true c6
            clear c6
            obtain rfl := Option.some.inj H
            have p225 : 0 ≤ (x5_1 : Int) := of_decide_eq_true (by first | (with_reducible assumption) | assumption)
            have q225 : x5_1 < (l0.length : Int) := of_decide_eq_true (by first | (with_reducible assumption) | assumption)
            obtain ⟨ad225, A225_0, c225_0, e225, hx225_0, hl225_0, hi225_0⟩ := at_L3 HR0.out x5_1 p225 q225
            cases e225
            have HR225_0 := Aside0.mk hi225_0
            have HC225_0 := Aside0.mk hl225_0
            clear hi225_0 hl225_0
            replace p225 := eq_true p225
            replace q225 := eq_true q225
            go_wp2_with (first | ((with_reducible refine gate_callee (f := 49) rfl ?_); refine goesL_ (some 17) rfl rfl Try.func49 (by kernel_rfl) rfl #[.slice A225_0 (rd_L3 l0 x5_1).length c225_0, .int .i64 x1_1] rfl (by (try simp only [List.map_toArray, List.map_cons, List.map_nil]); first | done | rfl | (simp only [List.length_drop, List.length_take]; rfl)) ?_; (with_reducible refine (laws_heldIntS.calls k1 _ _ (rd_L3 l0 x5_1) x1_1 t226 _ ?side1 ?side2 A5.out).mono ?_); (case side1 => repeat (first | exact HR225_0.out | (with_reducible refine Kd.C_alloc ?_ _) | (with_reducible refine Kd.C_drewN ?_ _) | (with_reducible refine Kd.C_drew ?_))); (case side2 => exact HC225_0.out); rintro e w' ⟨rfl, ⟨nd, rfl⟩⟩; refine ⟨_, rfl, ?_⟩))
            go_ret
            exact ⟨by first | rfl | (simp; done) | (simp [*]; done), by repeat (first | exact Drawn0.refl _ | apply Drawn0.step)⟩
          · rw [if_neg c6] at H
            have c6b0 : decide (t226 < 0) = false := decide_eq_false c6
            clear c6
            have H' := Aside0.mk H
            clear H
            have p225 : 0 ≤ (x5_1 : Int) := of_decide_eq_true (by first | (with_reducible assumption) | assumption)
            have q225 : x5_1 < (l0.length : Int) := of_decide_eq_true (by first | (with_reducible assumption) | assumption)
            obtain ⟨ad225, A225_0, c225_0, e225, hx225_0, hl225_0, hi225_0⟩ := at_L3 HR0.out x5_1 p225 q225
            cases e225
            have HR225_0 := Aside0.mk hi225_0
            have HC225_0 := Aside0.mk hl225_0
            clear hi225_0 hl225_0
            replace p225 := eq_true p225
            replace q225 := eq_true q225
            go_wp2_with (first | ((with_reducible refine gate_callee (f := 49) rfl ?_); refine goesL_ (some 17) rfl rfl Try.func49 (by kernel_rfl) rfl #[.slice A225_0 (rd_L3 l0 x5_1).length c225_0, .int .i64 x1_1] rfl (by (try simp only [List.map_toArray, List.map_cons, List.map_nil]); first | done | rfl | (simp only [List.length_drop, List.length_take]; rfl)) ?_; (with_reducible refine (laws_heldIntS.calls k1 _ _ (rd_L3 l0 x5_1) x1_1 t226 _ ?side1 ?side2 A5.out).mono ?_); (case side1 => repeat (first | exact HR225_0.out | (with_reducible refine Kd.C_alloc ?_ _) | (with_reducible refine Kd.C_drewN ?_ _) | (with_reducible refine Kd.C_drew ?_))); (case side2 => exact HC225_0.out); rintro e w' ⟨rfl, ⟨nd, rfl⟩⟩; refine ⟨_, rfl, ?_⟩))
            go_roundg k1
            case measure => have := HK1.out; omega
            case rel => exact ⟨(t226), (wrap64 (x5_1 + 1)), (by first | rfl | (simp; done) | (simp [*]; done)), (by first | rfl | (simp; done) | (simp [*]; done)), H', ⟨by have := HK1.out; omega⟩, by repeat (first | exact Drawn0.refl _ | apply Drawn0.step)⟩
        · rw [if_neg c4] at H
          exact absurd H (by simp)
      · rw [if_neg c3] at H
        have c3b0 : decide (x5_1 < (l0.length : Int)) = false := decide_eq_false c3
        clear c3
        obtain rfl := Option.some.inj H
        go_wp2
        go_ret
        exact ⟨by first | rfl | (simp; done) | (simp [*]; done), by repeat (first | exact Drawn0.refl _ | apply Drawn0.step)⟩
def laws_FnExactGateClauses.Pure : Prop := ∀ (l0 : List (S71)) (a1 : Int) , (l0.length ≤ maxLen ∧ ∀ y0_ ∈ l0, ((Lit.int .i64 y0_.f0).wf = true) ∧ ((Lit.int .i64 y0_.f1).wf = true) ∧ ((Lit.int .i64 y0_.f2).wf = true)) → (Lit.int .i64 a1).wf = true → ∃ s : Int, laws_szGateS.f l0 1048576 = some s ∧ (0 ≤ s → ∃ (k : Nat) (g g' : List S69) (c c' : List (List Int)) (b : Bool) (km m : Int), laws_toGateS.f k l0 = some g ∧ spec_GateClauses.f k g a1 = some (c, b) ∧ impl_GateClauses.f k g a1 = some (c, b) ∧ laws_eqIntSS.f k c c = some true ∧ laws_eqGateS.f k g g = some true ∧ laws_markGateS.f k g 1 = some (km, g') ∧ 0 ≤ km ∧ laws_markIntSS.f k c 1 = some (m, c') ∧ laws_heldIntSS.f k c' 1 = some m ∧ 0 ≤ m)
set_option maxHeartbeats 8000000 in
set_option maxRecDepth 100000 in
theorem laws_FnExactGateClauses.walk (P : laws_FnExactGateClauses.Pure) (w : World) (A0 : Option Addr) (c0 : Nat) (l0 : List (S71)) (hr0 : Kd.C k71 w A0 l0.length l0) (hc0 : l0.length ≤ c0) (hg0 : (l0.length ≤ maxLen ∧ ∀ y0_ ∈ l0, ((Lit.int .i64 y0_.f0).wf = true) ∧ ((Lit.int .i64 y0_.f1).wf = true) ∧ ((Lit.int .i64 y0_.f2).wf = true))) (a1 : Int) (hg1 : (Lit.int .i64 a1).wf = true) :
    Calls Try.prog 3 #[.slice A0 l0.length c0, .int .i64 a1] w fun e w' => e = .returned (.bool true) ∧ Below w.heap.size w w' := by
  obtain ⟨s, hs, hP⟩ := P l0 a1 hg0 hg1
  have HR0 := Aside0.mk hr0
  have HC0 := Aside0.mk hc0
  have HX := Aside0.mk (Ex.refl w)
  have hS := Aside0.mk hs
  clear hr0 hc0 hg0 hs P hg1
  by_cases h0 : s < 0
  · have c3 : decide (s < 0) = true := decide_eq_true h0
    clear h0 hP
    go_enter Try.func3, Try.ntmps3
    go_wp2_with (go_at_call 7; refine (laws_szGateS.calls _ _ l0 1048576 s _ (Kd.C_below HR0.out HX.out.below) HC0.out hS.out).mono ?_; rintro e W1 ⟨rfl, hd⟩; have n_ := Aside0.mk (HX.out.call hd.below); clear HX hd; have HX := n_; clear n_)
    go_ret
    exact ⟨rfl, HX.out.below⟩
  · have c3 : decide (s < 0) = false := decide_eq_false h0
    obtain ⟨k, g, g', c, c', b, km, m, h1, h2, h3, h4, h5, h6, h7, h8, h9, h10⟩ := hP (by omega)
    replace h1 := Aside0.mk h1
    replace h2 := Aside0.mk h2
    replace h3 := Aside0.mk h3
    replace h4 := Aside0.mk h4
    replace h5 := Aside0.mk h5
    replace h6 := Aside0.mk h6
    replace h8 := Aside0.mk h8
    replace h9 := Aside0.mk h9
    have c7 : decide (km < 0) = false := decide_eq_false (by omega)
    have c10 : decide (m < 0) = false := decide_eq_false (by omega)
    have cb : (b != b) = false := by cases b <;> rfl
    have cm : (m != m) = false := bne_self_eq_false m
    clear h0 hP h7 h10
    go_enter Try.func3, Try.ntmps3
    go_upto_region 5 with (go_at_call 7; refine (laws_szGateS.calls _ _ l0 1048576 s _ (Kd.C_below HR0.out HX.out.below) HC0.out hS.out).mono ?_; rintro e W1 ⟨rfl, hd⟩; have n_ := Aside0.mk (HX.out.call hd.below); clear HX hd; have HX := n_; clear n_)
    go_upto_region 6 with (first | (go_at_call 9; refine (laws_toGateS.calls k _ _ l0 g _ (Kd.C_below HR0.out HX.out.below) HC0.out h1.out).mono ?_; rintro e W2 ⟨v, rfl, ho, hb⟩; obtain ⟨At, ct, rfl⟩ := Kd.R_slice ho; have HYt := Aside0.mk (Kd.R_reads' ho).2.2; have HYct := Aside0.mk (Kd.R_reads' ho).2.1; have n_ := Aside0.mk (HX.out.call hb); clear HX ho hb; have HX := n_; clear n_) | (go_at_call 8; refine (spec_GateClauses.calls k _ _ g a1 c b _ HYt.out HYct.out h2.out).mono ?_; rintro e W3 ⟨v, rfl, ho, hb⟩; obtain ⟨Aw, cw, rfl⟩ := Kd.N_slice ho; have HWc := Aside0.mk (Kd.N_reads' ho).2.1; have n_ := Aside0.mk (HX.out.made hb (fun W_ : World => Kd.C (Kd.slice 3 (Kd.int .i64)) W_ Aw c.length c) (Ex.of_N ho (fun _ h_ => h_))); clear HX ho hb HYt HYct; have HX := n_; clear n_))
    go_upto_region 7 with (go_at_call 9; refine (laws_toGateS.calls k _ _ l0 g _ (Kd.C_below HR0.out HX.out.below) HC0.out h1.out).mono ?_; rintro e W4 ⟨v, rfl, ho, hb⟩; obtain ⟨Ax, cx, rfl⟩ := Kd.R_slice ho; have n_ := Aside0.mk (HX.out.made hb (fun W_ : World => Kd.R k69 69 W_ w.heap.size (fun k_ => W3.heap.size ≤ k_ ∧ k_ < W4.heap.size) (.slice Ax g.length cx) g) (Ex.of_R ho HX.out.below.size)); clear HX ho hb; have HX := n_; clear n_)
    go_upto_region 8 with (go_at_call 10; have hr_ := Kd.R_reads' (HX.out.now 0 rfl); refine (impl_GateClauses.calls k _ _ g a1 c b _ hr_.2.2 hr_.2.1 h3.out).mono ?_; rintro e W5 ⟨v, rfl, ho, hb⟩; clear hr_; obtain ⟨Ag, cg, rfl⟩ := Kd.S_slice ho; have n_ := Aside0.mk (HX.out.made hb (fun W_ : World => Kd.S (Kd.slice 3 (Kd.int .i64)) 43 W_ w.heap.size (fun k_ => W4.heap.size ≤ k_ ∧ k_ < W5.heap.size) (.slice Ag c.length cg) c) (Ex.of_S ho HX.out.below.size)); clear HX ho hb; have HX := n_; clear n_)
    go_upto_region 10 with (go_at_call 11; have hr_ := Kd.S_reads' (HX.out.now 0 rfl); refine (laws_eqIntSS.calls k _ _ c _ _ c true _ hr_.2.2 hr_.2.1 (HX.out.now 2 rfl) HWc.out h4.out).mono ?_; rintro e W6 ⟨rfl, hd⟩; clear hr_; have n_ := Aside0.mk (HX.out.call hd.below); clear HX hd; have HX := n_; clear n_)
    go_upto_region 12 with (first | (go_at_call 9; refine (laws_toGateS.calls k _ _ l0 g _ (Kd.C_below HR0.out HX.out.below) HC0.out h1.out).mono ?_; rintro e W7 ⟨v, rfl, ho, hb⟩; obtain ⟨Au, cu, rfl⟩ := Kd.R_slice ho; have HYu := Aside0.mk (Kd.R_reads' ho).2.2; have HYcu := Aside0.mk (Kd.R_reads' ho).2.1; have n_ := Aside0.mk (HX.out.call hb); clear HX ho hb; have HX := n_; clear n_) | (go_at_call 12; have hr_ := Kd.R_reads' (HX.out.now 1 rfl); refine (laws_eqGateS.calls k _ _ g _ _ g true _ hr_.2.2 hr_.2.1 HYu.out HYcu.out h5.out).mono ?_; rintro e W8 ⟨rfl, hb⟩; clear hr_; have n_ := Aside0.mk (HX.out.call hb); clear HX hb HYu HYcu; have HX := n_; clear n_))
    go_upto_region 14 with (go_at_call 13; refine (laws_markGateS.calls k _ _ g 1 km g' w _ HX.out.below (HX.out.now 1 rfl) h6.out).mono ?_; rintro e W9 ⟨rfl, ho, hb, hk⟩; have n_ := Aside0.mk (HX.out.wrote 1 rfl hb hk (fun _ h_ => h_) (fun _ => True) (fun _ _ => trivial)); clear HX ho hb hk; have HX := n_; clear n_)
    go_upto_region 16 with (go_at_call 11; have hr_ := Kd.S_reads' (HX.out.now 0 rfl); refine (laws_eqIntSS.calls k _ _ c _ _ c true _ hr_.2.2 hr_.2.1 (HX.out.now 2 rfl) HWc.out h4.out).mono ?_; rintro e W10 ⟨rfl, hd⟩; clear hr_; have n_ := Aside0.mk (HX.out.call hd.below); clear HX hd; have HX := n_; clear n_)
    go_upto_region 18 with (go_at_call 14; refine (laws_markIntSS.calls k _ _ _ c 1 m c' w _ HX.out.below (HX.out.now 0 rfl) h8.out).mono ?_; rintro e W11 ⟨rfl, ho, hb, hk⟩; have n_ := Aside0.mk (HX.out.wrote 0 rfl hb hk (fun _ h_ => h_) (fun W_ : World => Kd.S (Kd.slice 3 (Kd.int .i64)) 43 W_ w.heap.size (fun k_ => W4.heap.size ≤ k_ ∧ k_ < W5.heap.size) (.slice Ag c.length cg) c') (fun W_ hW_ => Kd.S_step ho (fun k_ hk_ _ => hW_ k_ hk_.1 hk_.2))); clear HX ho hb hk; have HX := n_; clear n_)
    go_upto_region 20 with (go_at_call 15; have hr_ := Kd.S_reads' (HX.out.now 0 rfl); have hc_ := laws_heldIntSS.calls k _ _ c' 1 m _ hr_.2.2 (Nat.le_trans (Nat.le_of_eq hr_.1.symm) hr_.2.1) h9.out; rw [← hr_.1] at hc_; refine hc_.mono ?_; clear hc_; rintro e W12 ⟨rfl, hd⟩; clear hr_; have n_ := Aside0.mk (HX.out.call hd.below); clear HX hd; have HX := n_; clear n_)
    go_upto_region 24 with (fail)
    go_upto_region 25 with (first | (go_at_call 9; refine (laws_toGateS.calls k _ _ l0 g _ (Kd.C_below HR0.out HX.out.below) HC0.out h1.out).mono ?_; rintro e W13 ⟨v, rfl, ho, hb⟩; obtain ⟨Av, cv, rfl⟩ := Kd.R_slice ho; have HYv := Aside0.mk (Kd.R_reads' ho).2.2; have HYcv := Aside0.mk (Kd.R_reads' ho).2.1; have n_ := Aside0.mk (HX.out.call hb); clear HX ho hb; have HX := n_; clear n_) | (go_at_call 10; refine (impl_GateClauses.calls k _ _ g a1 c b _ HYv.out HYcv.out h3.out).mono ?_; rintro e W14 ⟨v, rfl, ho, hb⟩; obtain ⟨Ah, ch, rfl⟩ := Kd.S_slice ho; have HH := Aside0.mk (Kd.S_reads' ho).2.2; have HHc := Aside0.mk (Kd.S_reads' ho).2.1; have n_ := Aside0.mk (HX.out.call hb); clear HX ho hb HYv HYcv; have HX := n_; clear n_))
    go_upto_region 27 with (go_at_call 11; refine (laws_eqIntSS.calls k _ _ c _ _ c true _ HH.out HHc.out (HX.out.now 2 rfl) HWc.out h4.out).mono ?_; rintro e W15 ⟨rfl, hd⟩; have n_ := Aside0.mk (HX.out.call hd.below); clear HX hd HH HHc; have HX := n_; clear n_)
    go_upto_region 29 with (go_at_call 15; have hr_ := Kd.S_reads' (HX.out.now 0 rfl); have hc_ := laws_heldIntSS.calls k _ _ c' 1 m _ hr_.2.2 (Nat.le_trans (Nat.le_of_eq hr_.1.symm) hr_.2.1) h9.out; rw [← hr_.1] at hc_; refine hc_.mono ?_; clear hc_; rintro e W16 ⟨rfl, hd⟩; clear hr_; have n_ := Aside0.mk (HX.out.call hd.below); clear HX hd; have HX := n_; clear n_)
    go_wp2
    go_ret
    exact ⟨rfl, HX.out.below⟩
def spec_ClausesOf.l0 : Nat → List (S69) → List (List Int) → List (S69) → Int → Int → Option ((List (List Int)) × Bool)
  | 0, _, _, _, _, _ => none
  | k + 1, x0, x4, x10, x11, x12 => if x12 < x11 then (if 0 ≤ x12 then (if x12 < (x10.length : Int) then ((spec_l8Clauses.f k ((rd_T69 x10 x12).f0) ((rd_T69 x10 x12).f1) ((rd_T69 x10 x12).f2) x12).bind fun t230 => (if x4.length + t230.length < 5864062014805 then (spec_ClausesOf.l0 k x0 (x4 ++ t230) x10 x11 (wrap64 (x12 + 1))) else (none))) else (none)) else (none)) else (if x4.length < 5864062014805 then (some ((x4 ++ [(([(x0.length : Int)] : List Int))]), true)) else (none))
def spec_ClausesOf.f (k : Nat) (l0 : List (S69)) : Option ((List (List Int)) × Bool) := (spec_GoodGates.f k l0).bind fun t227 => (if t227 = true then (spec_ClausesOf.l0 k l0 ([] : List (List Int)) l0 (l0.length : Int) 0) else (some (([] : List (List Int)), false)))
set_option maxHeartbeats 8000000 in
set_option maxRecDepth 100000 in
theorem spec_ClausesOf.calls (k : Nat) (A0 : Option Addr) (c0 : Nat) (l0 : List (S69)) (r1 : List (List Int)) (r2 : Bool) (w : World) (hr0 : Kd.C k69 w A0 l0.length l0) (hc0 : l0.length ≤ c0) (h : spec_ClausesOf.f k l0 = some (r1, r2)) :
    Calls Try.prog 16 #[.slice A0 l0.length c0] w fun e w' => ∃ v0_ : Value, e = .returned (.tuple #[v0_, .bool r2]) ∧ Kd.N (Kd.slice 3 (Kd.int .i64)) 43 w' w.heap.size (fun k_ => (w.heap.size ≤ k_)) v0_ r1 ∧ Below w.heap.size w w' := by
  have hu69 := Try.underlying69
  have HR0 := Aside0.mk hr0
  have HC0 := Aside0.mk hc0
  clear hr0 hc0
  have HB := Aside0.mk (Below.refl w.heap.size w)
  have H : ((spec_GoodGates.f k l0).bind fun t227 => (if t227 = true then (spec_ClausesOf.l0 k l0 ([] : List (List Int)) l0 (l0.length : Int) 0) else (some (([] : List (List Int)), false)))) = some (r1, r2) := h
  clear h
  replace H := Option.bind_eq_some_iff.mp H
  obtain ⟨t227, A20, H⟩ := H
  replace H : (if t227 = true then (spec_ClausesOf.l0 k l0 ([] : List (List Int)) l0 (l0.length : Int) 0) else (some (([] : List (List Int)), false))) = some (r1, r2) := H
  have A2 := Aside0.mk A20
  clear A20
  by_cases c3 : t227 = true
  · subst c3
    have H1 : (spec_ClausesOf.l0 k l0 ([] : List (List Int)) l0 (l0.length : Int) 0) = some (r1, r2) := by rw [if_pos rfl] at H; exact H
    clear H
    have H := H1
    clear H1
    have H' := Aside0.mk H
    clear H
    go_enter Try.func16, Try.ntmps16
    go_wp2_with (first | ((with_reducible refine gate_callee (f := 41) rfl ?_); refine goesL_ (some 8) rfl rfl Try.func41 (by kernel_rfl) rfl #[.slice A0 l0.length c0] rfl (by (try simp only [List.map_toArray, List.map_cons, List.map_nil]); first | done | rfl | (simp only [List.length_drop, List.length_take]; rfl)) ?_; (with_reducible refine (spec_GoodGates.calls k _ _ l0 true _ ?side1 ?side2 A2.out).mono ?_); (case side1 => repeat (first | exact HR0.out | (with_reducible refine Kd.C_alloc ?_ _) | (with_reducible refine Kd.C_drewN ?_ _) | (with_reducible refine Kd.C_drew ?_))); (case side2 => exact HC0.out); rintro e w4 ⟨rfl, hb⟩; refine ⟨_, rfl, ?_⟩; have n0_ := Aside0.mk (below_step (bq_) hb); clear HB; have HB := n0_; clear n0_; (try clear hb); (try clear hb2); (try clear hk); (try clear hi)))
    go_loopg [4, 12] k (fun kq v4 v12 w' => ∃ (x4_1 : List (List Int)) (x12_1 : Int), v12 = .int .i64 x12_1 ∧ Aside0 (spec_ClausesOf.l0 kq l0 x4_1 l0 (l0.length : Int) x12_1 = some (r1, r2)) ∧ Aside0 (kq ≤ k) ∧ Aside0 (Kd.N (Kd.slice 3 (Kd.int .i64)) 43 w' w.heap.size (fun k_ => (w.heap.size ≤ k_)) v4 x4_1) ∧ Aside0 (Below w.heap.size w w'))
    case atStart => exact ⟨(([] : List (List Int))), (0), (by first | rfl | (simp; done) | (simp [*]; done)), H', ⟨Nat.le_refl _⟩, ⟨by first | exact Kd.S_nil _ _ _ _ _ | exact Kd.N_nil _ _ _ _ _ | exact Kd.V_nil _ _ _ _ _ | exact Kd.Q_nil _ _ _ _ _ | exact Kd.R_nil _ _ _ _ _⟩, ⟨bq_⟩⟩
    case round =>
      clear H'
      try clear c1
      try clear p2
      try clear c3
      try clear c4
      obtain ⟨x4_1, x12_1, rfl, HA, HK1, HO_4, HB⟩ := hrel
      cases gk with
      | zero => exact absurd HA.out (by simp [spec_ClausesOf.l0])
      | succ k1 =>
        have H := HA.out
        clear HA
        simp only [spec_ClausesOf.l0] at H
        by_cases c5 : x12_1 < (l0.length : Int)
        · rw [if_pos c5] at H
          have c5b0 : decide (x12_1 < (l0.length : Int)) = true := decide_eq_true c5
          clear c5
          by_cases c6 : 0 ≤ x12_1
          · rw [if_pos c6] at H
            have c6b0 : decide (0 ≤ x12_1) = true := decide_eq_true c6
            clear c6
            by_cases c7 : x12_1 < (l0.length : Int)
            · rw [if_pos c7] at H
              have c7b0 : decide (x12_1 < (l0.length : Int)) = true := decide_eq_true c7
              clear c7
              replace H := Option.bind_eq_some_iff.mp H
              obtain ⟨t230, A80, H⟩ := H
              replace H : (if x4_1.length + t230.length < 5864062014805 then (spec_ClausesOf.l0 k1 l0 (x4_1 ++ t230) l0 (l0.length : Int) (wrap64 (x12_1 + 1))) else (none)) = some (r1, r2) := H
              have A8 := Aside0.mk A80
              clear A80
              by_cases c9 : x4_1.length + t230.length < 5864062014805
              · rw [if_pos c9] at H
                have LMc9 := Aside0.mk c9
                clear c9
                obtain ⟨y233, hy233⟩ : ∃ y_ : List (List Int), y_ = (x4_1 ++ t230) := ⟨_, rfl⟩
                replace H : (spec_ClausesOf.l0 k1 l0 y233 l0 (l0.length : Int) (wrap64 (x12_1 + 1))) = some (r1, r2) := by first | (rw [hy233]; with_reducible exact H) | (have H2_ := (Option.bind_some _ _).symm.trans H; rw [hy233]; with_reducible exact H2_) | (have H2_ := (Option.bind_some _ _).symm.trans H; with_reducible exact H2_) | with_reducible exact H | (rw [hy233]; exact H) | exact H
                have Ny233 := Aside0.mk hy233
                clear hy233
                have H' := Aside0.mk H
                clear H
                have p228 : 0 ≤ (x12_1 : Int) := of_decide_eq_true (by first | (with_reducible assumption) | assumption)
                have q228 : x12_1 < (l0.length : Int) := of_decide_eq_true (by first | (with_reducible assumption) | assumption)
                obtain ⟨ad228, e228, hx228_0, hx228_1, hx228_2⟩ := at_T69 HR0.out x12_1 p228 q228
                cases e228
                replace hx228_0 := (HB.out.cell (World.block_lt_of_cell? w _ hx228_0)).trans hx228_0
                replace hx228_1 := (HB.out.cell (World.block_lt_of_cell? w _ hx228_1)).trans hx228_1
                replace hx228_2 := (HB.out.cell (World.block_lt_of_cell? w _ hx228_2)).trans hx228_2
                replace p228 := eq_true p228
                replace q228 := eq_true q228
                go_wp2_with (first | ((with_reducible refine gate_dst (N := 6) rfl ?_); refine boxq_ (N := 6) (cs := #[.int .i64 0, .int .i64 0, .int .i64 0]) (t := 69) ?_; intro gb229 hg w10 hbox hb; have n0_ := Aside0.mk (Kd.N_below (Kd.N_elderB (by (with_reducible repeat (first | apply Kd.N_alloc | apply Kd.N_drewN | apply Kd.N_drew)); exact HO_4.out) gb229 (Nat.le_of_eq hg.symm)) hb); have n1_ := Aside0.mk (below_step (bq_) hb); have n2_ := Aside0.mk (hbox); have n3_ := Aside0.mk ((by rw [hg]; exact (below_size (bq_)) : w.heap.size ≤ gb229)); have n4_ := Aside0.mk ((by rw [hg]; exact (below_size (bq_)) : w.heap.size ≤ gb229)); clear HO_4; clear HB; have HO_4 := n0_; have HB := n1_; have BK229 := n2_; have GW229 := n3_; have GE229 := n4_; clear n0_ n1_ n2_ n3_ n4_; clear hb hbox hg; have hcz11_0 := cq_ BK229.out 0 (.int .i64 0); have hcz11_1 := cq_ BK229.out 1 (.int .i64 0); have hcz11_2 := cq_ BK229.out 2 (.int .i64 0); have hfz11_0 := blk_frozen BK229.out 0; have hfz11_1 := blk_frozen BK229.out 1; have hfz11_2 := blk_frozen BK229.out 2) | ((with_reducible refine gate_callee (f := 42) rfl ?_); refine goesL_ (some 20) rfl rfl Try.func42 (by kernel_rfl) rfl #[.agg #[.int .i64 ((rd_T69 l0 x12_1).f0), .int .i64 ((rd_T69 l0 x12_1).f1), .int .i64 ((rd_T69 l0 x12_1).f2)], .int .i64 x12_1] rfl (by (try simp only [List.map_toArray, List.map_cons, List.map_nil]); first | done | rfl | (simp only [List.length_drop, List.length_take]; rfl)) ?_; (with_reducible refine (spec_l8Clauses.calls k1 ((rd_T69 l0 x12_1).f0) ((rd_T69 l0 x12_1).f1) ((rd_T69 l0 x12_1).f2) x12_1 t230 _ A8.out).mono ?_); rintro e w12 ⟨v231, rfl, ho0, hb⟩; refine ⟨_, rfl, ?_⟩; have n0_ := Aside0.mk (Kd.N_elder' (by (with_reducible repeat (first | apply Kd.N_alloc | apply Kd.N_drewN | apply Kd.N_drew)); exact (Kd.N_mono (Kd.N_far (p := ⟨gb229, 2, none⟩) (Kd.N_far (p := ⟨gb229, 1, none⟩) (Kd.N_far (p := ⟨gb229, 0, none⟩) (Kd.N_mono HO_4.out (fun k_ hk => (⟨hk, hk.2⟩ : _ ∧ k_ ≠ gb229))) (fun _ hk => hk.2) (.int .i64 ((rd_T69 l0 x12_1).f0))) (fun _ hk => hk.2) (.int .i64 ((rd_T69 l0 x12_1).f1))) (fun _ hk => hk.2) (.int .i64 ((rd_T69 l0 x12_1).f2))) (fun _ h_ => h_.1))) (Kd.N_base ho0) hb); have n1_ := Aside0.mk (Kd.N_lower (Kd.N_mono (ok' := fun k_ => (w.heap.size ≤ k_) ∧ some k_ ≠ (u4 : Value).ownBlock ∧ k_ ≠ gb229) ho0 (fun k_ hk_ => ⟨(Nat.le_trans (below_size (bq_)) hk_), (Kd.fresh' (Kd.N_lt (by (with_reducible repeat (first | apply Kd.N_alloc | apply Kd.N_drewN | apply Kd.N_drew)); exact (Kd.N_mono (Kd.N_far (p := ⟨gb229, 2, none⟩) (Kd.N_far (p := ⟨gb229, 1, none⟩) (Kd.N_far (p := ⟨gb229, 0, none⟩) (Kd.N_mono HO_4.out (fun k_ hk => (⟨hk, hk.2⟩ : _ ∧ k_ ≠ gb229))) (fun _ hk => hk.2) (.int .i64 ((rd_T69 l0 x12_1).f0))) (fun _ hk => hk.2) (.int .i64 ((rd_T69 l0 x12_1).f1))) (fun _ hk => hk.2) (.int .i64 ((rd_T69 l0 x12_1).f2))) (fun _ h_ => h_.1)))) k_ hk_), (Kd.freshB (g := gb229) (o := .cells #[.int .i64 ((rd_T69 l0 x12_1).f0), .int .i64 ((rd_T69 l0 x12_1).f1), .int .i64 ((rd_T69 l0 x12_1).f2)] 69 (0, 0)) (by (with_reducible repeat (first | refine blk_drewN ?_ _ | refine blk_drew ?_ | refine blk_alloc ?_ _)); refine blk_put (cs := #[.int .i64 ((rd_T69 l0 x12_1).f0), .int .i64 ((rd_T69 l0 x12_1).f1), .int .i64 0]) ?_ 2 _ rfl; (with_reducible repeat (first | refine blk_drewN ?_ _ | refine blk_drew ?_ | refine blk_alloc ?_ _)); refine blk_put (cs := #[.int .i64 ((rd_T69 l0 x12_1).f0), .int .i64 0, .int .i64 0]) ?_ 1 _ rfl; (with_reducible repeat (first | refine blk_drewN ?_ _ | refine blk_drew ?_ | refine blk_alloc ?_ _)); refine blk_put (cs := #[.int .i64 0, .int .i64 0, .int .i64 0]) ?_ 0 _ rfl; (with_reducible repeat (first | refine blk_drewN ?_ _ | refine blk_drew ?_ | refine blk_alloc ?_ _)); exact BK229.out) k_ hk_)⟩)) (below_size (bq_))); have n2_ := Aside0.mk (blk_below (g := gb229) (o := .cells #[.int .i64 ((rd_T69 l0 x12_1).f0), .int .i64 ((rd_T69 l0 x12_1).f1), .int .i64 ((rd_T69 l0 x12_1).f2)] 69 (0, 0)) (by (with_reducible repeat (first | refine blk_drewN ?_ _ | refine blk_drew ?_ | refine blk_alloc ?_ _)); refine blk_put (cs := #[.int .i64 ((rd_T69 l0 x12_1).f0), .int .i64 ((rd_T69 l0 x12_1).f1), .int .i64 0]) ?_ 2 _ rfl; (with_reducible repeat (first | refine blk_drewN ?_ _ | refine blk_drew ?_ | refine blk_alloc ?_ _)); refine blk_put (cs := #[.int .i64 ((rd_T69 l0 x12_1).f0), .int .i64 0, .int .i64 0]) ?_ 1 _ rfl; (with_reducible repeat (first | refine blk_drewN ?_ _ | refine blk_drew ?_ | refine blk_alloc ?_ _)); refine blk_put (cs := #[.int .i64 0, .int .i64 0, .int .i64 0]) ?_ 0 _ rfl; (with_reducible repeat (first | refine blk_drewN ?_ _ | refine blk_drew ?_ | refine blk_alloc ?_ _)); exact BK229.out) hb); have n3_ := Aside0.mk (below_step (bq_) hb); clear HO_4; clear BK229; clear HB; have HO_4 := n0_; have HO232 := n1_; have BK229 := n2_; have HB := n3_; clear n0_ n1_ n2_ n3_; (try clear hb); (try clear hb2); (try clear hk); (try clear hi); (try clear ho0); obtain ⟨Ao14, co14, eo14⟩ := Kd.N_slice HO232.out; subst eo14) | ((with_reducible refine gate_builtin (b := .append) (xs := #[.tmp 17, .tmp 20]) rfl ?_); at_builtin; refine Kd.N_append_rows (Kd.slice 3 (Kd.int .i64)) (w0 := w) w.heap.size rfl (.tmp 17) (.tmp 20) 24 43 (.slice none 0 0) 24 rfl Try.underlying24 info43 rfl (by decide) (by omega) u4 x4_1 t230 _ _ _ (fun k_ => (w.heap.size ≤ k_) ∧ k_ ≠ gb229) (fun k_ => ((fun k_ => (w.heap.size ≤ k_) ∧ k_ ≠ gb229)) k_ ∧ some k_ ≠ (u4 : Value).ownBlock) rfl rfl ?aO ?aR (fun _ hk => hk) ?aF ?aB ?aS ?aL ?_; (case aR => exact (by skip; exact Kd.N_F (Kd.N_mono (ok' := (fun k_ => ((fun k_ => (w.heap.size ≤ k_) ∧ k_ ≠ gb229)) k_ ∧ some k_ ≠ (u4 : Value).ownBlock)) (HO232.out) (fun k_ hk => ⟨⟨hk.1, hk.2.2⟩, hk.2.1⟩)))); (case aB => exact (bq_)); (case aF => exact (fun k_ hk => ⟨(Nat.le_trans (below_size (bq_)) hk), Kd.freshB (g := gb229) (o := .cells #[.int .i64 ((rd_T69 l0 x12_1).f0), .int .i64 ((rd_T69 l0 x12_1).f1), .int .i64 ((rd_T69 l0 x12_1).f2)] 69 (0, 0)) (bk_ BK229.out) k_ hk⟩)); (case aO => exact (by (with_reducible repeat (first | apply Kd.N_alloc | apply Kd.N_drewN | apply Kd.N_drew)); exact Kd.N_mono HO_4.out (fun _ hk => ⟨hk.1.1, hk.1.2⟩))); (case aS => exact (below_size (bq_))); (case aL => have := LMc9.out; omega); intro v234 w13 ho hb hg hat; rw [← Ny233.out] at ho; have n0_ := Aside0.mk (blk_grown (bk_ BK229.out) hg (Kd.N_ne HO_4.out BK229.out (by decide))); have n1_ := Aside0.mk (Kd.N_afterv (ok := (fun k_ => (w.heap.size ≤ k_) ∧ k_ ≠ gb229)) (by (with_reducible repeat (first | apply Kd.N_alloc | apply Kd.N_drewN | apply Kd.N_drew)); exact Kd.N_mono HO232.out (fun _ hk => ⟨⟨hk.1, hk.2.2⟩, hk.2.1⟩)) hg hat); have n2_ := Aside0.mk (hb); have n3_ := Aside0.mk (ho); clear BK229; clear HO232; clear HB; clear HO_4; have BK229 := n0_; have HO232 := n1_; have HB := n2_; have HO235 := n3_; clear n0_ n1_ n2_ n3_; clear ho hb hg hat))
                go_roundg k1
                case measure => have := HK1.out; omega
                case rel => exact ⟨(y233), (wrap64 (x12_1 + 1)), (by first | rfl | (simp; done) | (simp [*]; done)), H', ⟨by have := HK1.out; omega⟩, ⟨by (with_reducible repeat (first | apply Kd.N_alloc | apply Kd.N_drewN | apply Kd.N_drew)); exact Kd.N_mono HO235.out (fun _ hk => hk.1)⟩, ⟨bq_⟩⟩
              · rw [if_neg c9] at H
                exact absurd H (by simp)
            · rw [if_neg c7] at H
              exact absurd H (by simp)
          · rw [if_neg c6] at H
            exact absurd H (by simp)
        · rw [if_neg c5] at H
          have c5b0 : decide (x12_1 < (l0.length : Int)) = false := decide_eq_false c5
          clear c5
          obtain ⟨y236, hy236⟩ : ∃ y_ : List Int, y_ = (([(l0.length : Int)] : List Int)) := ⟨_, rfl⟩
          replace H : (if x4_1.length < 5864062014805 then (some ((x4_1 ++ [y236]), true)) else (none)) = some (r1, r2) := by first | (rw [hy236]; with_reducible exact H) | (have H2_ := (Option.bind_some _ _).symm.trans H; rw [hy236]; with_reducible exact H2_) | (have H2_ := (Option.bind_some _ _).symm.trans H; with_reducible exact H2_) | with_reducible exact H | (rw [hy236]; exact H) | exact H
          have Ny236 := Aside0.mk hy236
          clear hy236
          by_cases c15 : x4_1.length < 5864062014805
          · rw [if_pos c15] at H
            have LMc15 := Aside0.mk c15
            clear c15
            obtain ⟨y239, hy239⟩ : ∃ y_ : List (List Int), y_ = (x4_1 ++ [y236]) := ⟨_, rfl⟩
            replace H : (some (y239, true)) = some (r1, r2) := by first | (rw [hy239]; with_reducible exact H) | (have H2_ := (Option.bind_some _ _).symm.trans H; rw [hy239]; with_reducible exact H2_) | (have H2_ := (Option.bind_some _ _).symm.trans H; with_reducible exact H2_) | with_reducible exact H | (rw [hy239]; exact H) | exact H
            have Ny239 := Aside0.mk hy239
            clear hy239
            simp only [Option.some.injEq, Prod.mk.injEq] at H
            obtain ⟨rfl, rfl⟩ := H
            go_wp2_with (first | ((with_reducible refine gate_dst (N := 26) rfl ?_); refine Kd.R_lit (Kd.int .i64) _ 3 ?hg (N := 26) ?hd (xs := ([(l0.length : Int)] : List Int)) (inner := [.int .i64 (l0.length : Int)]) (ok := fun _ => True) (okp := fun _ => True) ?hr ?hp (fun _ hk => hk) trivial (Below.refl _ _) (Nat.le_refl _) (by simp) ?_; (case hd => rfl); (case hg => rfl); (case hr => first | (go_simp; done) | (go_simp; rfl)); (case hp => exact (Reps.one (show Kd.M (Kd.int .i64) _ _ _ (l0.length : Int) [.int .i64 (l0.length : Int)] from rfl) (Reps.none _ _))); intro v237 w16 ho17 hb hg_ hnew_; clear hg_ hnew_; (first | rw [← Ny236.out] at ho17 | (simp only [Int.reduceToNat] at ho17; rw [← Ny236.out] at ho17)); have n0_ := Aside0.mk (Kd.N_elder' (by (with_reducible repeat (first | apply Kd.N_alloc | apply Kd.N_drewN | apply Kd.N_drew)); exact HO_4.out) (Kd.R_base ho17) hb); have n1_ := Aside0.mk (Kd.R_lower (Kd.R_newM (M := fun k_ => (w.heap.size ≤ k_)) ho17 (below_size (bq_)) (fun k_ h_ => h_)) (below_size (bq_))); have n2_ := Aside0.mk (below_step (bq_) hb); clear HO_4; clear HB; have HO_4 := n0_; have HO238 := n1_; have HB := n2_; clear n0_ n1_ n2_; clear hb ho17; obtain ⟨Ao19, co19, eo19⟩ := Kd.R_slice HO238.out; subst eo19) | ((with_reducible refine gate_builtin (b := .append) (xs := #[.tmp 23, .tmp 27]) rfl ?_); at_builtin; refine Kd.N_append (Kd.slice 3 (Kd.int .i64)) (w0 := w) w.heap.size rfl (.tmp 23) (.tmp 27) 24 43 (.slice none 0 0) 24 rfl Try.underlying24 info43 rfl (by decide) (by omega) u4 x4_1 y236 [.slice Ao19 y236.length co19] (fun k_ => (w.heap.size ≤ k_)) (fun k_ => ((fun k_ => (w.heap.size ≤ k_))) k_ ∧ some k_ ≠ (u4 : Value).ownBlock) rfl rfl ?aP (fun _ hk => hk) ?aF ?aO ?aB ?aS ?aL ?_; (case aP => exact (Kd.FK_slice_mk (Kd.R_reads' (Kd.R_mono (ok' := (fun k_ => ((fun k_ => (w.heap.size ≤ k_))) k_ ∧ some k_ ≠ (u4 : Value).ownBlock)) (Kd.R_apart' (HO238.out) (Kd.N_typed HO_4.out) (by decide)) (fun k_ hk => ⟨hk.1.1, hk.2⟩))).2.1 (Kd.R_F (Kd.R_mono (ok' := (fun k_ => ((fun k_ => (w.heap.size ≤ k_))) k_ ∧ some k_ ≠ (u4 : Value).ownBlock)) (Kd.R_apart' (HO238.out) (Kd.N_typed HO_4.out) (by decide)) (fun k_ hk => ⟨hk.1.1, hk.2⟩))))); (case aB => exact (bq_)); (case aF => exact (fun k_ hk => (Nat.le_trans (below_size (bq_)) hk))); (case aO => exact (by (with_reducible repeat (first | apply Kd.N_alloc | apply Kd.N_drewN | apply Kd.N_drew)); exact Kd.N_mono HO_4.out (fun _ hk => hk.1))); (case aS => exact (below_size (bq_))); (case aL => have := LMc15.out; omega); intro v240 w18 ho hb hg hat; rw [← Ny239.out] at ho; have n0_ := Aside0.mk (hb); have n1_ := Aside0.mk (ho); clear HB; clear HO_4; clear HO238; have HB := n0_; have HO241 := n1_; clear n0_ n1_; clear ho hb hg hat))
            go_ret2
            exact ⟨_, by first | rfl | (simp [errW_none, errW_some] <;> rfl) | (simp [*, errW_none, errW_some] <;> rfl), by (with_reducible repeat (first | apply Kd.N_alloc | apply Kd.N_drewN | apply Kd.N_drew)); exact HO241.out, bq_⟩
          · rw [if_neg c15] at H
            exact absurd H (by simp)
  · replace c3 := Bool.eq_false_iff.mpr c3
    subst c3
    have H1 : (some (([] : List (List Int)), false)) = some (r1, r2) := by rw [if_neg (show ¬ (false = true) by decide)] at H; exact H
    clear H
    have H := H1
    clear H1
    simp only [Option.some.injEq, Prod.mk.injEq] at H
    obtain ⟨rfl, rfl⟩ := H
    go_enter Try.func16, Try.ntmps16
    go_wp2_with (first | ((with_reducible refine gate_callee (f := 41) rfl ?_); refine goesL_ (some 8) rfl rfl Try.func41 (by kernel_rfl) rfl #[.slice A0 l0.length c0] rfl (by (try simp only [List.map_toArray, List.map_cons, List.map_nil]); first | done | rfl | (simp only [List.length_drop, List.length_take]; rfl)) ?_; (with_reducible refine (spec_GoodGates.calls k _ _ l0 false _ ?side1 ?side2 A2.out).mono ?_); (case side1 => repeat (first | exact HR0.out | (with_reducible refine Kd.C_alloc ?_ _) | (with_reducible refine Kd.C_drewN ?_ _) | (with_reducible refine Kd.C_drew ?_))); (case side2 => exact HC0.out); rintro e w20 ⟨rfl, hb⟩; refine ⟨_, rfl, ?_⟩; have n0_ := Aside0.mk (below_step (bq_) hb); clear HB; have HB := n0_; clear n0_; (try clear hb); (try clear hb2); (try clear hk); (try clear hi)))
    go_ret2
    exact ⟨_, by first | rfl | (simp [errW_none, errW_some] <;> rfl) | (simp [*, errW_none, errW_some] <;> rfl), by first | exact Kd.S_nil _ _ _ _ _ | exact Kd.N_nil _ _ _ _ _ | exact Kd.V_nil _ _ _ _ _ | exact Kd.Q_nil _ _ _ _ _ | exact Kd.R_nil _ _ _ _ _, bq_⟩
theorem impl_ClausesOf.reads_map {α β : Type} {R : α → List Value → Prop} {R' : β → List Value → Prop} {sz n : Nat} {w : World} {A : Option Addr} {ps : List α} (g : α → β) (h : ReadsRow R sz w A n ps) (hR : ∀ p c, R p c → R' (g p) c) : ReadsRow R' sz w A n (ps.map g) := by
  refine ⟨by rw [List.length_map]; exact h.1, h.2.1, fun hp => ?_⟩
  obtain ⟨ad, ha, hc⟩ := h.2.2 hp
  refine ⟨ad, ha, fun j p hj => ?_⟩
  rw [List.getElem?_map] at hj
  obtain ⟨q, hq, rfl⟩ := Option.map_eq_some_iff.1 hj
  obtain ⟨c, h1, h2, h3⟩ := hc j q hq
  exact ⟨c, h1, hR _ _ h2, h3⟩
theorem impl_ClausesOf.zip_shift {α : Type} (ys : List α) (n : Nat) : (ys.zipIdx).map (fun p => (p.1, p.2 + n)) = ys.zipIdx n := by
  apply List.ext_getElem?
  intro j
  simp only [List.getElem?_map, List.getElem?_zipIdx, Nat.zero_add, Option.map_map]
  cases ys[j]? <;> simp [Nat.add_comm]
section
variable {P : Program} {ops : Array Oper} {rest : List Oper} {o : Oper} {a : Act} {Q : Exit → Act → World → Prop} {α : Type}
open Classical in
theorem impl_ClausesOf.S_append_rows (d : Kd α) {w0 W : World} (base : Nat) (hgd : o.guard = none) (s x : Operand) (t e : TypeId) (z : Value) (bytes : Nat)
    (ho : o.op = .call { callee := .builtin .append, args := #[s, x], argTypes := #[t, t] })
    (ht : P.underlying t = some (.slice e)) (hinfo : (P.info? e).map (fun i => (i.zero, i.size, i.bytes)) = some (some z, d.sz, bytes)) (hz : z.cells.size = d.sz) (hs0 : 0 < d.sz) (hb0 : 0 < bytes)
    (v : Value) (xs ys : List α) (A : Option Addr) (m c : Nat) (ok okp : Nat → Prop) (hs : a.eval s = v) (hx : a.eval x = .slice A m c)
    (HO : Kd.S d e W base (fun k => ok k ∧ ¬ okp k) v xs) (HX : Kd.S d e W base okp (.slice A m c) ys) (hokp : ∀ k, okp k → ok k ∧ some k ≠ v.ownBlock) (hfresh : ∀ k, W.heap.size ≤ k → ok k)
    (HB : Below base w0 W) (hbase : base ≤ W.heap.size) (hl : (xs.length + m) * bytes ≤ 140737488355328)
    (h : ∀ v1 w1, Kd.S d e w1 base ok v1 (xs ++ ys) → Below base w0 w1 → W.grownBy w1 v.ownBlock → (v1.ownBlock = v.ownBlock ∨ ∃ b, v1.ownBlock = some b ∧ W.heap.size ≤ b) → wpList P ops Q rest (a.put o.dst v1) w1) :
    wpList P ops Q (o :: rest) a W := by
  obtain ⟨fx, hX⟩ := HO
  obtain ⟨fy, hY⟩ := HX
  have h1 : (Kd.tag (fun k => if okp k then fy k + xs.length else fx k) d).R e W base (fun k => ok k ∧ ¬ okp k) v xs.zipIdx := Kd.R_tag hX (fun k hk _ => if_neg hk.2)
  obtain ⟨A', c', he, _, hr⟩ := OwnRow.reads hY.2
  rw [List.length_zipIdx] at he hr
  injection he with e1 e2 e3
  subst e1 e2 e3
  have h2 := impl_ClausesOf.reads_map (R' := (Kd.tag (fun k => if okp k then fy k + xs.length else fx k) d).M W base okp) (fun p => (p.1, p.2 + xs.length)) hr (fun p cs hp => by
    have hp2 : d.M W base (fun k => (okp k ∧ some k ≠ (Value.slice A ys.length c).ownBlock) ∧ fy k = p.2) p.1 cs := hp
    have hp3 : d.M W base (fun k => okp k ∧ (if okp k then fy k + xs.length else fx k) = p.2 + xs.length) p.1 cs := d.M_mono (fun k hk => ⟨hk.1.1, by rw [if_pos hk.1.1, hk.2]⟩) hp2
    exact hp3)
  rw [impl_ClausesOf.zip_shift] at h2
  refine Kd.R_append_rows (Kd.tag (fun k => if okp k then fy k + xs.length else fx k) d) base hgd s x t e z bytes ho ht hinfo hz hs0 hb0 v xs.zipIdx (ys.zipIdx xs.length) _ _ _ ok okp hs hx (Kd.R_mono h1 (fun _ hk => hk.1)) h2 (fun _ _ hk => hk) hokp hfresh HB hbase (by rw [List.length_zipIdx]; exact hl) ?_
  intro v1 w1 hr1
  rw [show xs.zipIdx ++ ys.zipIdx xs.length = (xs ++ ys).zipIdx by rw [List.zipIdx_append, Nat.zero_add]] at hr1
  exact h v1 w1 ⟨_, hr1⟩
end
def impl_ClausesOf.l0 : Nat → List (S69) → List (List Int) → Int → Int → Option ((List (List Int)) × Bool)
  | 0, _, _, _, _ => none
  | k + 1, x0, x4, x10, x11 => if x11 < x10 then ((impl_gateClauses.f k x0 x11).bind fun t277 => (if x4.length + t277.length < 5864062014805 then (impl_ClausesOf.l0 k x0 (x4 ++ t277) x10 (wrap64 (x11 + 1))) else (none))) else (if x4.length < 5864062014805 then (some ((x4 ++ [(([(x0.length : Int)] : List Int))]), true)) else (none))
def impl_ClausesOf.f (k : Nat) (l0 : List (S69)) : Option ((List (List Int)) × Bool) := (impl_GoodGates.f k l0).bind fun t276 => (if t276 = true then (impl_ClausesOf.l0 k l0 ([] : List (List Int)) (l0.length : Int) 0) else (some (([] : List (List Int)), false)))
set_option maxHeartbeats 8000000 in
set_option maxRecDepth 100000 in
theorem impl_ClausesOf.calls (k : Nat) (A0 : Option Addr) (c0 : Nat) (l0 : List (S69)) (r1 : List (List Int)) (r2 : Bool) (w : World) (hr0 : Kd.C k69 w A0 l0.length l0) (hc0 : l0.length ≤ c0) (h : impl_ClausesOf.f k l0 = some (r1, r2)) :
    Calls Try.prog 17 #[.slice A0 l0.length c0] w fun e w' => ∃ v0_ : Value, e = .returned (.tuple #[v0_, .bool r2]) ∧ Kd.S (Kd.slice 3 (Kd.int .i64)) 43 w' w.heap.size (fun _ => True) v0_ r1 ∧ Below w.heap.size w w' := by
  have HR0 := Aside0.mk hr0
  have HC0 := Aside0.mk hc0
  clear hr0 hc0
  have HB := Aside0.mk (Below.refl w.heap.size w)
  have H : ((impl_GoodGates.f k l0).bind fun t276 => (if t276 = true then (impl_ClausesOf.l0 k l0 ([] : List (List Int)) (l0.length : Int) 0) else (some (([] : List (List Int)), false)))) = some (r1, r2) := h
  clear h
  replace H := Option.bind_eq_some_iff.mp H
  obtain ⟨t276, A20, H⟩ := H
  replace H : (if t276 = true then (impl_ClausesOf.l0 k l0 ([] : List (List Int)) (l0.length : Int) 0) else (some (([] : List (List Int)), false))) = some (r1, r2) := H
  have A2 := Aside0.mk A20
  clear A20
  by_cases c3 : t276 = true
  · subst c3
    have H1 : (impl_ClausesOf.l0 k l0 ([] : List (List Int)) (l0.length : Int) 0) = some (r1, r2) := by rw [if_pos rfl] at H; exact H
    clear H
    have H := H1
    clear H1
    have H' := Aside0.mk H
    clear H
    go_enter Try.func17, Try.ntmps17
    go_wp2_with (first | ((with_reducible refine gate_callee (f := 34) rfl ?_); refine goesL_ (some 7) rfl rfl Try.func34 (by kernel_rfl) rfl #[.slice A0 l0.length c0] rfl (by (try simp only [List.map_toArray, List.map_cons, List.map_nil]); first | done | rfl | (simp only [List.length_drop, List.length_take]; rfl)) ?_; (with_reducible refine (impl_GoodGates.calls k _ _ l0 true _ ?side1 ?side2 A2.out).mono ?_); (case side1 => repeat (first | exact HR0.out | (with_reducible refine Kd.C_alloc ?_ _) | (with_reducible refine Kd.C_drewN ?_ _) | (with_reducible refine Kd.C_drew ?_))); (case side2 => exact HC0.out); rintro e w4 ⟨rfl, hb⟩; refine ⟨_, rfl, ?_⟩; have n0_ := Aside0.mk (below_step (bq_) hb); clear HB; have HB := n0_; clear n0_; (try clear hb); (try clear hb2); (try clear hk); (try clear hi)))
    go_loopg [4, 11] k (fun kq v4 v11 w' => ∃ (x4_1 : List (List Int)) (x11_1 : Int), v11 = .int .i64 x11_1 ∧ Aside0 (impl_ClausesOf.l0 kq l0 x4_1 (l0.length : Int) x11_1 = some (r1, r2)) ∧ Aside0 (kq ≤ k) ∧ Aside0 (Kd.S (Kd.slice 3 (Kd.int .i64)) 43 w' w.heap.size (fun _ => True) v4 x4_1) ∧ Aside0 (Below w.heap.size w w'))
    case atStart => exact ⟨(([] : List (List Int))), (0), (by first | rfl | (simp; done) | (simp [*]; done)), H', ⟨Nat.le_refl _⟩, ⟨by first | exact Kd.S_nil _ _ _ _ _ | exact Kd.N_nil _ _ _ _ _ | exact Kd.V_nil _ _ _ _ _ | exact Kd.Q_nil _ _ _ _ _ | exact Kd.R_nil _ _ _ _ _⟩, ⟨bq_⟩⟩
    case round =>
      clear H'
      try clear c1
      try clear p2
      try clear c3
      obtain ⟨x4_1, x11_1, rfl, HA, HK1, HO_4, HB⟩ := hrel
      cases gk with
      | zero => exact absurd HA.out (by simp [impl_ClausesOf.l0])
      | succ k1 =>
        have H := HA.out
        clear HA
        simp only [impl_ClausesOf.l0] at H
        by_cases c5 : x11_1 < (l0.length : Int)
        · rw [if_pos c5] at H
          have c5b0 : decide (x11_1 < (l0.length : Int)) = true := decide_eq_true c5
          clear c5
          replace H := Option.bind_eq_some_iff.mp H
          obtain ⟨t277, A60, H⟩ := H
          replace H : (if x4_1.length + t277.length < 5864062014805 then (impl_ClausesOf.l0 k1 l0 (x4_1 ++ t277) (l0.length : Int) (wrap64 (x11_1 + 1))) else (none)) = some (r1, r2) := H
          have A6 := Aside0.mk A60
          clear A60
          by_cases c7 : x4_1.length + t277.length < 5864062014805
          · rw [if_pos c7] at H
            have LMc7 := Aside0.mk c7
            clear c7
            obtain ⟨y280, hy280⟩ : ∃ y_ : List (List Int), y_ = (x4_1 ++ t277) := ⟨_, rfl⟩
            replace H : (impl_ClausesOf.l0 k1 l0 y280 (l0.length : Int) (wrap64 (x11_1 + 1))) = some (r1, r2) := by first | (rw [hy280]; with_reducible exact H) | (have H2_ := (Option.bind_some _ _).symm.trans H; rw [hy280]; with_reducible exact H2_) | (have H2_ := (Option.bind_some _ _).symm.trans H; with_reducible exact H2_) | with_reducible exact H | (rw [hy280]; exact H) | exact H
            have Ny280 := Aside0.mk hy280
            clear hy280
            have H' := Aside0.mk H
            clear H
            go_wp2_with (first | ((with_reducible refine gate_callee (f := 45) rfl ?_); refine goesL_ (some 17) rfl rfl Try.func45 (by kernel_rfl) rfl #[.slice A0 l0.length c0, .int .i64 x11_1] rfl (by (try simp only [List.map_toArray, List.map_cons, List.map_nil]); first | done | rfl | (simp only [List.length_drop, List.length_take]; rfl)) ?_; (with_reducible refine (impl_gateClauses.calls k1 _ _ l0 x11_1 t277 _ ?side1 ?side2 A6.out).mono ?_); (case side1 => repeat (first | exact (Kd.C_below HR0.out HB.out) | (with_reducible refine Kd.C_alloc ?_ _) | (with_reducible refine Kd.C_drewN ?_ _) | (with_reducible refine Kd.C_drew ?_))); (case side2 => exact HC0.out); rintro e w8 ⟨v278, rfl, ho0, hb⟩; refine ⟨_, rfl, ?_⟩; obtain ⟨N8_, n0_, n1_, n3_⟩ : ∃ N8_ : Nat, Aside0 (Kd.S (Kd.slice 3 (Kd.int .i64)) 43 w8 w.heap.size (fun k_ => k_ < N8_) u4 x4_1) ∧ Aside0 (Kd.S (Kd.slice 3 (Kd.int .i64)) 43 w8 w.heap.size (fun k_ => N8_ ≤ k_) v278 t277) ∧ Aside0 (N8_ ≤ w8.heap.size) := ⟨_, ⟨Kd.S_mono (Kd.S_old (by (with_reducible repeat (first | apply Kd.S_alloc | apply Kd.S_drewN | apply Kd.S_drew)); exact HO_4.out) hb) (fun _ hk => hk.2)⟩, ⟨Kd.S_mono (Kd.S_lower (Kd.S_bound ho0) (below_size (bq_))) (fun _ hk => hk.2.1)⟩, ⟨hb.size⟩⟩; have n2_ := Aside0.mk (below_step (bq_) hb); clear HO_4; clear HB; have HO_4 := n0_; have HO279 := n1_; have HB := n2_; have HN8 := n3_; clear n0_ n1_ n2_ n3_; (try clear hb); (try clear ho0); obtain ⟨Ao10, co10, eo10⟩ := Kd.S_slice HO279.out; subst eo10) | ((with_reducible refine gate_builtin (b := .append) (xs := #[.tmp 14, .tmp 17]) rfl ?_); at_builtin; refine impl_ClausesOf.S_append_rows (Kd.slice 3 (Kd.int .i64)) (w0 := w) w.heap.size rfl (.tmp 14) (.tmp 17) 24 43 (.slice none 0 0) 24 rfl Try.underlying24 info43 rfl (by decide) (by omega) u4 x4_1 t277 _ _ _ (fun _ => True) (fun k_ => N8_ ≤ k_) rfl rfl ?aO ?aR (fun k_ hk => ⟨trivial, fun e_ => absurd ((Kd.S_R HO_4.out).1 k_ e_.symm) (Nat.not_lt.2 hk)⟩) (fun _ _ => trivial) ?aB ?aS ?aL ?_; (case aR => exact (by (with_reducible repeat (first | apply Kd.S_alloc | apply Kd.S_drewN | apply Kd.S_drew)); exact HO279.out)); (case aB => exact (bq_)); (case aO => exact (by (with_reducible repeat (first | apply Kd.S_alloc | apply Kd.S_drewN | apply Kd.S_drew)); exact Kd.S_mono HO_4.out (fun _ hk => ⟨trivial, Nat.not_le.2 hk⟩))); (case aS => exact (below_size (bq_))); (case aL => have := LMc7.out; omega); intro v281 w9 ho hb hg hat; rw [← Ny280.out] at ho; have n1_ := Aside0.mk (hb); have n2_ := Aside0.mk (ho); clear HO279; clear HB; clear HO_4; clear HN8; have HB := n1_; have HO282 := n2_; clear n1_ n2_; clear ho hb hg hat))
            go_roundg k1
            case measure => have := HK1.out; omega
            case rel => exact ⟨(y280), (wrap64 (x11_1 + 1)), (by first | rfl | (simp; done) | (simp [*]; done)), H', ⟨by have := HK1.out; omega⟩, ⟨by (with_reducible repeat (first | apply Kd.S_alloc | apply Kd.S_drewN | apply Kd.S_drew)); exact HO282.out⟩, ⟨bq_⟩⟩
          · rw [if_neg c7] at H
            exact absurd H (by simp)
        · rw [if_neg c5] at H
          have c5b0 : decide (x11_1 < (l0.length : Int)) = false := decide_eq_false c5
          clear c5
          obtain ⟨y283, hy283⟩ : ∃ y_ : List Int, y_ = (([(l0.length : Int)] : List Int)) := ⟨_, rfl⟩
          replace H : (if x4_1.length < 5864062014805 then (some ((x4_1 ++ [y283]), true)) else (none)) = some (r1, r2) := by first | (rw [hy283]; with_reducible exact H) | (have H2_ := (Option.bind_some _ _).symm.trans H; rw [hy283]; with_reducible exact H2_) | (have H2_ := (Option.bind_some _ _).symm.trans H; with_reducible exact H2_) | with_reducible exact H | (rw [hy283]; exact H) | exact H
          have Ny283 := Aside0.mk hy283
          clear hy283
          by_cases c11 : x4_1.length < 5864062014805
          · rw [if_pos c11] at H
            have LMc11 := Aside0.mk c11
            clear c11
            obtain ⟨y286, hy286⟩ : ∃ y_ : List (List Int), y_ = (x4_1 ++ [y283]) := ⟨_, rfl⟩
            replace H : (some (y286, true)) = some (r1, r2) := by first | (rw [hy286]; with_reducible exact H) | (have H2_ := (Option.bind_some _ _).symm.trans H; rw [hy286]; with_reducible exact H2_) | (have H2_ := (Option.bind_some _ _).symm.trans H; with_reducible exact H2_) | with_reducible exact H | (rw [hy286]; exact H) | exact H
            have Ny286 := Aside0.mk hy286
            clear hy286
            simp only [Option.some.injEq, Prod.mk.injEq] at H
            obtain ⟨rfl, rfl⟩ := H
            go_wp2_with (first | ((with_reducible refine gate_dst (N := 23) rfl ?_); refine Kd.R_lit (Kd.int .i64) _ 3 ?hg (N := 23) ?hd (xs := ([(l0.length : Int)] : List Int)) (inner := [.int .i64 (l0.length : Int)]) (ok := fun _ => True) (okp := fun _ => True) ?hr ?hp (fun _ hk => hk) trivial (Below.refl _ _) (Nat.le_refl _) (by simp) ?_; (case hd => rfl); (case hg => rfl); (case hr => first | (go_simp; done) | (go_simp; rfl)); (case hp => exact (Reps.one (show Kd.M (Kd.int .i64) _ _ _ (l0.length : Int) [.int .i64 (l0.length : Int)] from rfl) (Reps.none _ _))); intro v284 w12 ho13 hb hg_ hnew_; clear hg_ hnew_; (first | rw [← Ny283.out] at ho13 | (simp only [Int.reduceToNat] at ho13; rw [← Ny283.out] at ho13)); obtain ⟨N8_, n0_, n1_⟩ : ∃ N8_ : Nat, Aside0 (Kd.S (Kd.slice 3 (Kd.int .i64)) 43 w12 w.heap.size (fun k_ => k_ < N8_) u4 x4_1) ∧ Aside0 (Kd.R (Kd.int .i64) 3 w12 w.heap.size (fun k_ => N8_ ≤ k_) v284 y283) := ⟨_, ⟨Kd.S_mono (Kd.S_old (by (with_reducible repeat (first | apply Kd.S_alloc | apply Kd.S_drewN | apply Kd.S_drew)); exact HO_4.out) hb) (fun _ hk => hk.2)⟩, ⟨Kd.R_mono (Kd.R_lower (Kd.R_bound ho13) (below_size (bq_))) (fun _ hk => hk.2.1)⟩⟩; have n2_ := Aside0.mk (below_step (bq_) hb); clear HO_4; clear HB; have HO_4 := n0_; have HO285 := n1_; have HB := n2_; clear n0_ n1_ n2_; clear hb ho13; obtain ⟨Ao15, co15, eo15⟩ := Kd.R_slice HO285.out; subst eo15) | ((with_reducible refine gate_builtin (b := .append) (xs := #[.tmp 20, .tmp 24]) rfl ?_); at_builtin; refine Kd.S_append (Kd.slice 3 (Kd.int .i64)) (w0 := w) w.heap.size rfl (.tmp 20) (.tmp 24) 24 43 (.slice none 0 0) 24 rfl Try.underlying24 info43 rfl (by decide) (by omega) u4 x4_1 y283 [.slice Ao15 y283.length co15] (fun _ => True) (fun k_ => N8_ ≤ k_) rfl rfl ?aP (fun k_ hk => ⟨trivial, fun e_ => absurd ((Kd.S_R HO_4.out).1 k_ e_.symm) (Nat.not_lt.2 hk)⟩) (fun _ _ => trivial) ?aO ?aB ?aS ?aL ?_; (case aP => exact Kd.M_row HO285.out); (case aB => exact (bq_)); (case aO => exact (by (with_reducible repeat (first | apply Kd.S_alloc | apply Kd.S_drewN | apply Kd.S_drew)); exact Kd.S_mono HO_4.out (fun _ hk => ⟨trivial, Nat.not_le.2 hk⟩))); (case aS => exact (below_size (bq_))); (case aL => have := LMc11.out; omega); intro v287 w14 ho hb hg hat; rw [← Ny286.out] at ho; have n0_ := Aside0.mk (hb); have n1_ := Aside0.mk (ho); clear HB; clear HO_4; clear HO285; have HB := n0_; have HO288 := n1_; clear n0_ n1_; clear ho hb hg hat))
            go_ret2
            exact ⟨_, by first | rfl | (simp [errW_none, errW_some] <;> rfl) | (simp [*, errW_none, errW_some] <;> rfl), by (with_reducible repeat (first | apply Kd.S_alloc | apply Kd.S_drewN | apply Kd.S_drew)); exact HO288.out, bq_⟩
          · rw [if_neg c11] at H
            exact absurd H (by simp)
  · replace c3 := Bool.eq_false_iff.mpr c3
    subst c3
    have H1 : (some (([] : List (List Int)), false)) = some (r1, r2) := by rw [if_neg (show ¬ (false = true) by decide)] at H; exact H
    clear H
    have H := H1
    clear H1
    simp only [Option.some.injEq, Prod.mk.injEq] at H
    obtain ⟨rfl, rfl⟩ := H
    go_enter Try.func17, Try.ntmps17
    go_wp2_with (first | ((with_reducible refine gate_callee (f := 34) rfl ?_); refine goesL_ (some 7) rfl rfl Try.func34 (by kernel_rfl) rfl #[.slice A0 l0.length c0] rfl (by (try simp only [List.map_toArray, List.map_cons, List.map_nil]); first | done | rfl | (simp only [List.length_drop, List.length_take]; rfl)) ?_; (with_reducible refine (impl_GoodGates.calls k _ _ l0 false _ ?side1 ?side2 A2.out).mono ?_); (case side1 => repeat (first | exact HR0.out | (with_reducible refine Kd.C_alloc ?_ _) | (with_reducible refine Kd.C_drewN ?_ _) | (with_reducible refine Kd.C_drew ?_))); (case side2 => exact HC0.out); rintro e w16 ⟨rfl, hb⟩; refine ⟨_, rfl, ?_⟩; have n0_ := Aside0.mk (below_step (bq_) hb); clear HB; have HB := n0_; clear n0_; (try clear hb); (try clear hb2); (try clear hk); (try clear hi)))
    go_ret2
    exact ⟨_, by first | rfl | (simp [errW_none, errW_some] <;> rfl) | (simp [*, errW_none, errW_some] <;> rfl), by first | exact Kd.S_nil _ _ _ _ _ | exact Kd.N_nil _ _ _ _ _ | exact Kd.V_nil _ _ _ _ _ | exact Kd.Q_nil _ _ _ _ _ | exact Kd.R_nil _ _ _ _ _, bq_⟩
def laws_FnExactClausesOf.Pure : Prop := ∀ (l0 : List (S71)) , (l0.length ≤ maxLen ∧ ∀ y0_ ∈ l0, ((Lit.int .i64 y0_.f0).wf = true) ∧ ((Lit.int .i64 y0_.f1).wf = true) ∧ ((Lit.int .i64 y0_.f2).wf = true)) → ∃ s : Int, laws_szGateS.f l0 1048576 = some s ∧ (0 ≤ s → ∃ (k : Nat) (g g' : List S69) (c c' : List (List Int)) (b : Bool) (km m : Int), laws_toGateS.f k l0 = some g ∧ spec_ClausesOf.f k g = some (c, b) ∧ impl_ClausesOf.f k g = some (c, b) ∧ laws_eqIntSS.f k c c = some true ∧ laws_eqGateS.f k g g = some true ∧ laws_markGateS.f k g 1 = some (km, g') ∧ 0 ≤ km ∧ laws_markIntSS.f k c 1 = some (m, c') ∧ laws_heldIntSS.f k c' 1 = some m ∧ 0 ≤ m)
set_option maxHeartbeats 8000000 in
set_option maxRecDepth 100000 in
theorem laws_FnExactClausesOf.walk (P : laws_FnExactClausesOf.Pure) (w : World) (A0 : Option Addr) (c0 : Nat) (l0 : List (S71)) (hr0 : Kd.C k71 w A0 l0.length l0) (hc0 : l0.length ≤ c0) (hg0 : (l0.length ≤ maxLen ∧ ∀ y0_ ∈ l0, ((Lit.int .i64 y0_.f0).wf = true) ∧ ((Lit.int .i64 y0_.f1).wf = true) ∧ ((Lit.int .i64 y0_.f2).wf = true)))  :
    Calls Try.prog 4 #[.slice A0 l0.length c0] w fun e w' => e = .returned (.bool true) ∧ Below w.heap.size w w' := by
  obtain ⟨s, hs, hP⟩ := P l0 hg0
  have HR0 := Aside0.mk hr0
  have HC0 := Aside0.mk hc0
  have HX := Aside0.mk (Ex.refl w)
  have hS := Aside0.mk hs
  clear hr0 hc0 hg0 hs P
  by_cases h0 : s < 0
  · have c3 : decide (s < 0) = true := decide_eq_true h0
    clear h0 hP
    go_enter Try.func4, Try.ntmps4
    go_wp2_with (go_at_call 7; refine (laws_szGateS.calls _ _ l0 1048576 s _ (Kd.C_below HR0.out HX.out.below) HC0.out hS.out).mono ?_; rintro e W1 ⟨rfl, hd⟩; have n_ := Aside0.mk (HX.out.call hd.below); clear HX hd; have HX := n_; clear n_)
    go_ret
    exact ⟨rfl, HX.out.below⟩
  · have c3 : decide (s < 0) = false := decide_eq_false h0
    obtain ⟨k, g, g', c, c', b, km, m, h1, h2, h3, h4, h5, h6, h7, h8, h9, h10⟩ := hP (by omega)
    replace h1 := Aside0.mk h1
    replace h2 := Aside0.mk h2
    replace h3 := Aside0.mk h3
    replace h4 := Aside0.mk h4
    replace h5 := Aside0.mk h5
    replace h6 := Aside0.mk h6
    replace h8 := Aside0.mk h8
    replace h9 := Aside0.mk h9
    have c7 : decide (km < 0) = false := decide_eq_false (by omega)
    have c10 : decide (m < 0) = false := decide_eq_false (by omega)
    have cb : (b != b) = false := by cases b <;> rfl
    have cm : (m != m) = false := bne_self_eq_false m
    clear h0 hP h7 h10
    go_enter Try.func4, Try.ntmps4
    go_upto_region 5 with (go_at_call 7; refine (laws_szGateS.calls _ _ l0 1048576 s _ (Kd.C_below HR0.out HX.out.below) HC0.out hS.out).mono ?_; rintro e W1 ⟨rfl, hd⟩; have n_ := Aside0.mk (HX.out.call hd.below); clear HX hd; have HX := n_; clear n_)
    go_upto_region 6 with (first | (go_at_call 9; refine (laws_toGateS.calls k _ _ l0 g _ (Kd.C_below HR0.out HX.out.below) HC0.out h1.out).mono ?_; rintro e W2 ⟨v, rfl, ho, hb⟩; obtain ⟨At, ct, rfl⟩ := Kd.R_slice ho; have HYt := Aside0.mk (Kd.R_reads' ho).2.2; have HYct := Aside0.mk (Kd.R_reads' ho).2.1; have n_ := Aside0.mk (HX.out.call hb); clear HX ho hb; have HX := n_; clear n_) | (go_at_call 16; refine (spec_ClausesOf.calls k _ _ g c b _ HYt.out HYct.out h2.out).mono ?_; rintro e W3 ⟨v, rfl, ho, hb⟩; obtain ⟨Aw, cw, rfl⟩ := Kd.N_slice ho; have HWc := Aside0.mk (Kd.N_reads' ho).2.1; have n_ := Aside0.mk (HX.out.made hb (fun W_ : World => Kd.C (Kd.slice 3 (Kd.int .i64)) W_ Aw c.length c) (Ex.of_N ho (fun _ h_ => h_))); clear HX ho hb HYt HYct; have HX := n_; clear n_))
    go_upto_region 7 with (go_at_call 9; refine (laws_toGateS.calls k _ _ l0 g _ (Kd.C_below HR0.out HX.out.below) HC0.out h1.out).mono ?_; rintro e W4 ⟨v, rfl, ho, hb⟩; obtain ⟨Ax, cx, rfl⟩ := Kd.R_slice ho; have n_ := Aside0.mk (HX.out.made hb (fun W_ : World => Kd.R k69 69 W_ w.heap.size (fun k_ => W3.heap.size ≤ k_ ∧ k_ < W4.heap.size) (.slice Ax g.length cx) g) (Ex.of_R ho HX.out.below.size)); clear HX ho hb; have HX := n_; clear n_)
    go_upto_region 8 with (go_at_call 17; have hr_ := Kd.R_reads' (HX.out.now 0 rfl); refine (impl_ClausesOf.calls k _ _ g c b _ hr_.2.2 hr_.2.1 h3.out).mono ?_; rintro e W5 ⟨v, rfl, ho, hb⟩; clear hr_; obtain ⟨Ag, cg, rfl⟩ := Kd.S_slice ho; have n_ := Aside0.mk (HX.out.made hb (fun W_ : World => Kd.S (Kd.slice 3 (Kd.int .i64)) 43 W_ w.heap.size (fun k_ => W4.heap.size ≤ k_ ∧ k_ < W5.heap.size) (.slice Ag c.length cg) c) (Ex.of_S ho HX.out.below.size)); clear HX ho hb; have HX := n_; clear n_)
    go_upto_region 10 with (go_at_call 11; have hr_ := Kd.S_reads' (HX.out.now 0 rfl); refine (laws_eqIntSS.calls k _ _ c _ _ c true _ hr_.2.2 hr_.2.1 (HX.out.now 2 rfl) HWc.out h4.out).mono ?_; rintro e W6 ⟨rfl, hd⟩; clear hr_; have n_ := Aside0.mk (HX.out.call hd.below); clear HX hd; have HX := n_; clear n_)
    go_upto_region 12 with (first | (go_at_call 9; refine (laws_toGateS.calls k _ _ l0 g _ (Kd.C_below HR0.out HX.out.below) HC0.out h1.out).mono ?_; rintro e W7 ⟨v, rfl, ho, hb⟩; obtain ⟨Au, cu, rfl⟩ := Kd.R_slice ho; have HYu := Aside0.mk (Kd.R_reads' ho).2.2; have HYcu := Aside0.mk (Kd.R_reads' ho).2.1; have n_ := Aside0.mk (HX.out.call hb); clear HX ho hb; have HX := n_; clear n_) | (go_at_call 12; have hr_ := Kd.R_reads' (HX.out.now 1 rfl); refine (laws_eqGateS.calls k _ _ g _ _ g true _ hr_.2.2 hr_.2.1 HYu.out HYcu.out h5.out).mono ?_; rintro e W8 ⟨rfl, hb⟩; clear hr_; have n_ := Aside0.mk (HX.out.call hb); clear HX hb HYu HYcu; have HX := n_; clear n_))
    go_upto_region 14 with (go_at_call 13; refine (laws_markGateS.calls k _ _ g 1 km g' w _ HX.out.below (HX.out.now 1 rfl) h6.out).mono ?_; rintro e W9 ⟨rfl, ho, hb, hk⟩; have n_ := Aside0.mk (HX.out.wrote 1 rfl hb hk (fun _ h_ => h_) (fun _ => True) (fun _ _ => trivial)); clear HX ho hb hk; have HX := n_; clear n_)
    go_upto_region 16 with (go_at_call 11; have hr_ := Kd.S_reads' (HX.out.now 0 rfl); refine (laws_eqIntSS.calls k _ _ c _ _ c true _ hr_.2.2 hr_.2.1 (HX.out.now 2 rfl) HWc.out h4.out).mono ?_; rintro e W10 ⟨rfl, hd⟩; clear hr_; have n_ := Aside0.mk (HX.out.call hd.below); clear HX hd; have HX := n_; clear n_)
    go_upto_region 18 with (go_at_call 14; refine (laws_markIntSS.calls k _ _ _ c 1 m c' w _ HX.out.below (HX.out.now 0 rfl) h8.out).mono ?_; rintro e W11 ⟨rfl, ho, hb, hk⟩; have n_ := Aside0.mk (HX.out.wrote 0 rfl hb hk (fun _ h_ => h_) (fun W_ : World => Kd.S (Kd.slice 3 (Kd.int .i64)) 43 W_ w.heap.size (fun k_ => W4.heap.size ≤ k_ ∧ k_ < W5.heap.size) (.slice Ag c.length cg) c') (fun W_ hW_ => Kd.S_step ho (fun k_ hk_ _ => hW_ k_ hk_.1 hk_.2))); clear HX ho hb hk; have HX := n_; clear n_)
    go_upto_region 20 with (go_at_call 15; have hr_ := Kd.S_reads' (HX.out.now 0 rfl); have hc_ := laws_heldIntSS.calls k _ _ c' 1 m _ hr_.2.2 (Nat.le_trans (Nat.le_of_eq hr_.1.symm) hr_.2.1) h9.out; rw [← hr_.1] at hc_; refine hc_.mono ?_; clear hc_; rintro e W12 ⟨rfl, hd⟩; clear hr_; have n_ := Aside0.mk (HX.out.call hd.below); clear HX hd; have HX := n_; clear n_)
    go_upto_region 24 with (fail)
    go_upto_region 25 with (first | (go_at_call 9; refine (laws_toGateS.calls k _ _ l0 g _ (Kd.C_below HR0.out HX.out.below) HC0.out h1.out).mono ?_; rintro e W13 ⟨v, rfl, ho, hb⟩; obtain ⟨Av, cv, rfl⟩ := Kd.R_slice ho; have HYv := Aside0.mk (Kd.R_reads' ho).2.2; have HYcv := Aside0.mk (Kd.R_reads' ho).2.1; have n_ := Aside0.mk (HX.out.call hb); clear HX ho hb; have HX := n_; clear n_) | (go_at_call 17; refine (impl_ClausesOf.calls k _ _ g c b _ HYv.out HYcv.out h3.out).mono ?_; rintro e W14 ⟨v, rfl, ho, hb⟩; obtain ⟨Ah, ch, rfl⟩ := Kd.S_slice ho; have HH := Aside0.mk (Kd.S_reads' ho).2.2; have HHc := Aside0.mk (Kd.S_reads' ho).2.1; have n_ := Aside0.mk (HX.out.call hb); clear HX ho hb HYv HYcv; have HX := n_; clear n_))
    go_upto_region 27 with (go_at_call 11; refine (laws_eqIntSS.calls k _ _ c _ _ c true _ HH.out HHc.out (HX.out.now 2 rfl) HWc.out h4.out).mono ?_; rintro e W15 ⟨rfl, hd⟩; have n_ := Aside0.mk (HX.out.call hd.below); clear HX hd HH HHc; have HX := n_; clear n_)
    go_upto_region 29 with (go_at_call 15; have hr_ := Kd.S_reads' (HX.out.now 0 rfl); have hc_ := laws_heldIntSS.calls k _ _ c' 1 m _ hr_.2.2 (Nat.le_trans (Nat.le_of_eq hr_.1.symm) hr_.2.1) h9.out; rw [← hr_.1] at hc_; refine hc_.mono ?_; clear hc_; rintro e W16 ⟨rfl, hd⟩; clear hr_; have n_ := Aside0.mk (HX.out.call hd.below); clear HX hd; have HX := n_; clear n_)
    go_wp2
    go_ret
    exact ⟨rfl, HX.out.below⟩
end Go.Proofs.Ytgahidilhjijiaa.PGD
