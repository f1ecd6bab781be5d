import Derived.Test.YtpndhlcbfobelaaPBEx0
import Derived.Test.YtpndhlcbfobelaaPBEx1
import Derived.Test.YtpndhlcbfobelaaPBEx2
namespace Go.Proofs.Ytpndhlcbfobelaa.PBE
open Go.RowKit Go.Proofs.YtpndhlcbfobelaaW.PrintWords Go.Proofs.YtpndhlcbfobelaaW.PrintLast Go.Proofs.YtpndhlcbfobelaaW.PrintMore
attribute [local go_sem] max2_int min2_int max_two min_two max_three min_three max_four min_four   -- for this text's walks alone
set_option linter.unusedVariables false
set_option linter.unusedSimpArgs false
def laws_heldDiagram.f (k : Nat) (a0_0 : Int) (l0_1 : List (S75)) (a0_2 : Int) (a1 : Int) : Option (Int) := (laws_heldNodeS.f k l0_1 a1).bind fun t119 => (if t119 < 0 then (some (-1)) else (some t119))
set_option maxHeartbeats 8000000 in
set_option maxRecDepth 100000 in
theorem laws_heldDiagram.calls (k : Nat) (a0_0 : Int) (A0_1 : Option Addr) (c0_1 : Nat) (l0_1 : List (S75)) (a0_2 : Int) (a1 : Int) (r : Int) (w : World) (hr0_1 : Kd.C k75 w A0_1 l0_1.length l0_1) (hc0_1 : l0_1.length ≤ c0_1) (h : laws_heldDiagram.f k a0_0 l0_1 a0_2 a1 = some r) :
    Calls Try.prog 28 #[.agg #[.int .i64 a0_0, .slice A0_1 l0_1.length c0_1, .int .i64 a0_2], .int .i64 a1] w fun e w' => e = .returned (.int .i64 r) ∧ Below w.heap.size w w' := by
  have hu30 := Try.underlying30
  have HR0_1 := Aside0.mk hr0_1
  have HC0_1 := Aside0.mk hc0_1
  clear hr0_1 hc0_1
  have HB := Aside0.mk (Below.refl w.heap.size w)
  have H : ((laws_heldNodeS.f k l0_1 a1).bind fun t119 => (if t119 < 0 then (some (-1)) else (some t119))) = some r := h
  clear h
  replace H := Option.bind_eq_some_iff.mp H
  obtain ⟨t119, A30, H⟩ := H
  replace H : (if t119 < 0 then (some (-1)) else (some t119)) = some r := H
  have A3 := Aside0.mk A30
  clear A30
  by_cases c4 : t119 < 0
  · rw [if_pos c4] at H
    have c4b0 : decide (t119 < 0) = true := decide_eq_true c4
    clear c4
    obtain rfl := Option.some.inj H
    go_enter Try.func28, Try.ntmps28
    go_wp2_with (first | ((with_reducible refine gate_dst (N := 2) rfl ?_); refine boxq_ (N := 2) (cs := #[.int .i64 a0_0, .slice A0_1 l0_1.length c0_1, .int .i64 a0_2]) (t := 30) ?_; intro gb118 hg w5 hbox hb; have n0_ := Aside0.mk (below_step (bq_) hb); have n1_ := Aside0.mk (hbox); have n2_ := Aside0.mk ((by rw [hg]; exact (below_size (bq_)) : w.heap.size ≤ gb118)); have n3_ := Aside0.mk ((by rw [hg]; exact (below_size (bq_)) : w.heap.size ≤ gb118)); clear HB; have HB := n0_; have BK118 := n1_; have GW118 := n2_; have GE118 := n3_; clear n0_ n1_ n2_ n3_; clear hb hbox hg; have hcz6_0 := cq_ BK118.out 0 (.int .i64 a0_0); have hcz6_1 := cq_ BK118.out 1 (.slice A0_1 l0_1.length c0_1); have hcz6_2 := cq_ BK118.out 2 (.int .i64 a0_2); have hfz6_0 := blk_frozen BK118.out 0; have hfz6_1 := blk_frozen BK118.out 1; have hfz6_2 := blk_frozen BK118.out 2) | ((with_reducible refine gate_callee (f := 65) rfl ?_); refine goesL_ (some 8) rfl rfl Try.func65 (by kernel_rfl) rfl #[.slice A0_1 l0_1.length c0_1, .int .i64 a1] rfl (by (try simp only [List.map_toArray, List.map_cons, List.map_nil]); first | done | rfl | (simp only [List.length_drop, List.length_take]; rfl)) ?_; (with_reducible refine (laws_heldNodeS.calls k _ _ l0_1 a1 t119 _ ?side1 ?side2 A3.out).mono ?_); (case side1 => repeat (first | exact (Kd.C_below HR0_1.out HB.out) | (with_reducible refine Kd.C_alloc ?_ _) | (with_reducible refine Kd.C_drewN ?_ _) | (with_reducible refine Kd.C_drew ?_))); (case side2 => exact HC0_1.out); rintro e w' ⟨rfl, ⟨nd, rfl⟩⟩; refine ⟨_, rfl, ?_⟩))
    go_ret
    exact ⟨by first | rfl | (simp [errW_none, errW_some] <;> rfl) | (simp [*, errW_none, errW_some] <;> rfl), bq_⟩
  · rw [if_neg c4] at H
    have c4b0 : decide (t119 < 0) = false := decide_eq_false c4
    clear c4
    obtain rfl := Option.some.inj H
    go_enter Try.func28, Try.ntmps28
    go_wp2_with (first | ((with_reducible refine gate_dst (N := 2) rfl ?_); refine boxq_ (N := 2) (cs := #[.int .i64 a0_0, .slice A0_1 l0_1.length c0_1, .int .i64 a0_2]) (t := 30) ?_; intro gb118 hg w7 hbox hb; have n0_ := Aside0.mk (below_step (bq_) hb); have n1_ := Aside0.mk (hbox); have n2_ := Aside0.mk ((by rw [hg]; exact (below_size (bq_)) : w.heap.size ≤ gb118)); have n3_ := Aside0.mk ((by rw [hg]; exact (below_size (bq_)) : w.heap.size ≤ gb118)); clear HB; have HB := n0_; have BK118 := n1_; have GW118 := n2_; have GE118 := n3_; clear n0_ n1_ n2_ n3_; clear hb hbox hg; have hcz8_0 := cq_ BK118.out 0 (.int .i64 a0_0); have hcz8_1 := cq_ BK118.out 1 (.slice A0_1 l0_1.length c0_1); have hcz8_2 := cq_ BK118.out 2 (.int .i64 a0_2); have hfz8_0 := blk_frozen BK118.out 0; have hfz8_1 := blk_frozen BK118.out 1; have hfz8_2 := blk_frozen BK118.out 2) | ((with_reducible refine gate_callee (f := 65) rfl ?_); refine goesL_ (some 8) rfl rfl Try.func65 (by kernel_rfl) rfl #[.slice A0_1 l0_1.length c0_1, .int .i64 a1] rfl (by (try simp only [List.map_toArray, List.map_cons, List.map_nil]); first | done | rfl | (simp only [List.length_drop, List.length_take]; rfl)) ?_; (with_reducible refine (laws_heldNodeS.calls k _ _ l0_1 a1 t119 _ ?side1 ?side2 A3.out).mono ?_); (case side1 => repeat (first | exact (Kd.C_below HR0_1.out HB.out) | (with_reducible refine Kd.C_alloc ?_ _) | (with_reducible refine Kd.C_drewN ?_ _) | (with_reducible refine Kd.C_drew ?_))); (case side2 => exact HC0_1.out); rintro e w' ⟨rfl, ⟨nd, rfl⟩⟩; refine ⟨_, rfl, ?_⟩))
    go_ret
    exact ⟨by first | rfl | (simp [errW_none, errW_some] <;> rfl) | (simp [*, errW_none, errW_some] <;> rfl), bq_⟩
def laws_szIntS.f (l0 : List Int) (a1 : Int) : Option (Int) := if (wrap64 (a1 - (l0.length : Int))) < 0 then (some (-1)) else (some (wrap64 (a1 - (l0.length : Int))))
set_option maxHeartbeats 8000000 in
set_option maxRecDepth 100000 in
theorem laws_szIntS.calls (A0 : Option Addr) (c0 : Nat) (l0 : List Int) (a1 : Int) (r : Int) (w : World) (hr0 : Kd.C (Kd.int .i64) w A0 l0.length l0) (hc0 : l0.length ≤ c0) (h : laws_szIntS.f l0 a1 = some r) :
    Calls Try.prog 70 #[.slice A0 l0.length c0, .int .i64 a1] w fun e w' => e = .returned (.int .i64 r) ∧ Drawn0 w w' := by
  have HR0 := Aside0.mk hr0
  have HC0 := Aside0.mk hc0
  clear hr0 hc0
  have H : (if (wrap64 (a1 - (l0.length : Int))) < 0 then (some (-1)) else (some (wrap64 (a1 - (l0.length : Int))))) = some r := h
  clear h
  by_cases c3 : (wrap64 (a1 - (l0.length : Int))) < 0
  · rw [if_pos c3] at H
    have c3b0 : decide ((wrap64 (a1 - (l0.length : Int))) < 0) = true := decide_eq_true c3
    clear c3
    obtain rfl := Option.some.inj H
    go_enter Try.func70, Try.ntmps70
    go_wp2
    go_ret
    exact ⟨by first | rfl | (simp; done) | (simp [*]; done), by repeat (first | exact Drawn0.refl _ | apply Drawn0.step)⟩
  · rw [if_neg c3] at H
    have c3b0 : decide ((wrap64 (a1 - (l0.length : Int))) < 0) = false := decide_eq_false c3
    clear c3
    obtain rfl := Option.some.inj H
    go_enter Try.func70, Try.ntmps70
    go_wp2
    go_ret
    exact ⟨by first | rfl | (simp; done) | (simp [*]; done), by repeat (first | exact Drawn0.refl _ | apply Drawn0.step)⟩
def laws_szIntSS.l0 : Nat → List (List Int) → Int → Int → Option (Int)
  | 0, _, _, _ => none
  | k + 1, x0, x1, x5 => if x5 < (x0.length : Int) then (if 0 ≤ x5 then ((laws_szIntS.f (rd_L2 x0 x5) x1).bind fun t121 => (if t121 < 0 then (some (-1)) else (laws_szIntSS.l0 k x0 t121 (wrap64 (x5 + 1))))) else (none)) else (some x1)
def laws_szIntSS.f (k : Nat) (l0 : List (List Int)) (a1 : Int) : Option (Int) := if (wrap64 (a1 - (l0.length : Int))) < 0 then (some (-1)) else (laws_szIntSS.l0 k l0 (wrap64 (a1 - (l0.length : Int))) 0)
set_option maxHeartbeats 8000000 in
set_option maxRecDepth 100000 in
theorem laws_szIntSS.calls (k : Nat) (A0 : Option Addr) (c0 : Nat) (l0 : List (List Int)) (a1 : Int) (r : Int) (w : World) (hr0 : Kd.C (Kd.slice 3 (Kd.int .i64)) w A0 l0.length l0) (hc0 : l0.length ≤ c0) (h : laws_szIntSS.f k l0 a1 = some r) :
    Calls Try.prog 33 #[.slice A0 l0.length c0, .int .i64 a1] w fun e w' => e = .returned (.int .i64 r) ∧ Drawn0 w w' := by
  have HR0 := Aside0.mk hr0
  have HC0 := Aside0.mk hc0
  clear hr0 hc0
  have H : (if (wrap64 (a1 - (l0.length : Int))) < 0 then (some (-1)) else (laws_szIntSS.l0 k l0 (wrap64 (a1 - (l0.length : Int))) 0)) = some r := h
  clear h
  by_cases c3 : (wrap64 (a1 - (l0.length : Int))) < 0
  · rw [if_pos c3] at H
    have c3b0 : decide ((wrap64 (a1 - (l0.length : Int))) < 0) = true := decide_eq_true c3
    clear c3
    obtain rfl := Option.some.inj H
    go_enter Try.func33, Try.ntmps33
    go_wp2
    go_ret
    exact ⟨by first | rfl | (simp; done) | (simp [*]; done), by repeat (first | exact Drawn0.refl _ | apply Drawn0.step)⟩
  · rw [if_neg c3] at H
    have c3b0 : decide ((wrap64 (a1 - (l0.length : Int))) < 0) = false := decide_eq_false c3
    clear c3
    have H' := Aside0.mk H
    clear H
    go_enter Try.func33, Try.ntmps33
    go_wp2
    go_loopg [1, 5] k (fun kq v1 v5 w' => ∃ (x1_1 : Int) (x5_1 : Int), v1 = .int .i64 x1_1 ∧ v5 = .int .i64 x5_1 ∧ Aside0 (laws_szIntSS.l0 kq l0 x1_1 x5_1 = some r) ∧ Aside0 (kq ≤ k) ∧ Drawn0 w w')
    case atStart => exact ⟨(wrap64 (a1 - (l0.length : Int))), (0), (by first | rfl | (simp; done) | (simp [*]; done)), (by first | rfl | (simp; done) | (simp [*]; done)), H', ⟨Nat.le_refl _⟩, by repeat (first | exact Drawn0.refl _ | apply Drawn0.step)⟩
    case round =>
      clear H'
      try clear p2
      try clear c3
      try clear c3b0
      obtain ⟨x1_1, x5_1, rfl, rfl, HA, HK1, ⟨m1, rfl⟩⟩ := hrel
      cases gk with
      | zero => exact absurd HA.out (by simp [laws_szIntSS.l0])
      | succ k1 =>
        have H := HA.out
        clear HA
        simp only [laws_szIntSS.l0] at H
        by_cases c4 : x5_1 < (l0.length : Int)
        · rw [if_pos c4] at H
          have c4b0 : decide (x5_1 < (l0.length : Int)) = true := decide_eq_true c4
          clear c4
          by_cases c5 : 0 ≤ x5_1
          · rw [if_pos c5] at H
            have c5b0 : decide (0 ≤ x5_1) = true := decide_eq_true c5
            clear c5
            replace H := Option.bind_eq_some_iff.mp H
            obtain ⟨t121, A60, H⟩ := H
            replace H : (if t121 < 0 then (some (-1)) else (laws_szIntSS.l0 k1 l0 t121 (wrap64 (x5_1 + 1)))) = some r := H
            have A6 := Aside0.mk A60
            clear A60
            by_cases c7 : t121 < 0
            · rw [if_pos c7] at H
              have c7b0 : decide (t121 < 0) = true := decide_eq_true c7
              clear c7
              obtain rfl := Option.some.inj H
              have p120 : 0 ≤ (x5_1 : Int) := of_decide_eq_true (by first | (with_reducible assumption) | assumption)
              have q120 : x5_1 < (l0.length : Int) := of_decide_eq_true (by first | (with_reducible assumption) | assumption)
              obtain ⟨ad120, A120_0, c120_0, e120, hx120_0, hl120_0, hi120_0⟩ := at_L2 HR0.out x5_1 p120 q120
              cases e120
              have HR120_0 := Aside0.mk hi120_0
              have HC120_0 := Aside0.mk hl120_0
              clear hi120_0 hl120_0
              replace p120 := eq_true p120
              replace q120 := eq_true q120
              go_wp2_with (first | ((with_reducible refine gate_callee (f := 70) rfl ?_); refine goesL_ (some 23) rfl rfl Try.func70 (by kernel_rfl) rfl #[.slice A120_0 (rd_L2 l0 x5_1).length c120_0, .int .i64 x1_1] rfl (by (try simp only [List.map_toArray, List.map_cons, List.map_nil]); first | done | rfl | (simp only [List.length_drop, List.length_take]; rfl)) ?_; (with_reducible refine (laws_szIntS.calls _ _ (rd_L2 l0 x5_1) x1_1 t121 _ ?side1 ?side2 A6.out).mono ?_); (case side1 => repeat (first | exact HR120_0.out | (with_reducible refine Kd.C_alloc ?_ _) | (with_reducible refine Kd.C_drewN ?_ _) | (with_reducible refine Kd.C_drew ?_))); (case side2 => exact HC120_0.out); rintro e w' ⟨rfl, ⟨nd, rfl⟩⟩; refine ⟨_, rfl, ?_⟩))
              go_ret
              exact ⟨by first | rfl | (simp; done) | (simp [*]; done), by repeat (first | exact Drawn0.refl _ | apply Drawn0.step)⟩
            · rw [if_neg c7] at H
              have c7b0 : decide (t121 < 0) = false := decide_eq_false c7
              clear c7
              have H' := Aside0.mk H
              clear H
              have p120 : 0 ≤ (x5_1 : Int) := of_decide_eq_true (by first | (with_reducible assumption) | assumption)
              have q120 : x5_1 < (l0.length : Int) := of_decide_eq_true (by first | (with_reducible assumption) | assumption)
              obtain ⟨ad120, A120_0, c120_0, e120, hx120_0, hl120_0, hi120_0⟩ := at_L2 HR0.out x5_1 p120 q120
              cases e120
              have HR120_0 := Aside0.mk hi120_0
              have HC120_0 := Aside0.mk hl120_0
              clear hi120_0 hl120_0
              replace p120 := eq_true p120
              replace q120 := eq_true q120
              go_wp2_with (first | ((with_reducible refine gate_callee (f := 70) rfl ?_); refine goesL_ (some 23) rfl rfl Try.func70 (by kernel_rfl) rfl #[.slice A120_0 (rd_L2 l0 x5_1).length c120_0, .int .i64 x1_1] rfl (by (try simp only [List.map_toArray, List.map_cons, List.map_nil]); first | done | rfl | (simp only [List.length_drop, List.length_take]; rfl)) ?_; (with_reducible refine (laws_szIntS.calls _ _ (rd_L2 l0 x5_1) x1_1 t121 _ ?side1 ?side2 A6.out).mono ?_); (case side1 => repeat (first | exact HR120_0.out | (with_reducible refine Kd.C_alloc ?_ _) | (with_reducible refine Kd.C_drewN ?_ _) | (with_reducible refine Kd.C_drew ?_))); (case side2 => exact HC120_0.out); rintro e w' ⟨rfl, ⟨nd, rfl⟩⟩; refine ⟨_, rfl, ?_⟩))
              go_roundg k1
              case measure => have := HK1.out; omega
              case rel => exact ⟨(t121), (wrap64 (x5_1 + 1)), (by first | rfl | (simp; done) | (simp [*]; done)), (by first | rfl | (simp; done) | (simp [*]; done)), H', ⟨by have := HK1.out; omega⟩, by repeat (first | exact Drawn0.refl _ | apply Drawn0.step)⟩
          · rw [if_neg c5] at H
            exact absurd H (by simp)
        · rw [if_neg c4] at H
          have c4b0 : decide (x5_1 < (l0.length : Int)) = false := decide_eq_false c4
          clear c4
          obtain rfl := Option.some.inj H
          go_wp2
          go_ret
          exact ⟨by first | rfl | (simp; done) | (simp [*]; done), by repeat (first | exact Drawn0.refl _ | apply Drawn0.step)⟩
def spec_l7Half.l0 : Nat → List Bool → List Bool → Int → Option (List Bool)
  | 0, _, _, _ => none
  | k + 1, x0, x5, x6 => if x6 < (x0.length : Int) then (if 0 ≤ x6 then (if x5.length < 140737488355328 then (spec_l7Half.l0 k x0 (x5 ++ [rdOf false x0 x6]) (wrap64 (x6 + 2))) else (none)) else (none)) else (some x5)
def spec_l7Half.f (k : Nat) (l0 : List Bool) (a1 : Int) : Option (List Bool) := spec_l7Half.l0 k l0 ([] : List Bool) a1
set_option maxHeartbeats 8000000 in
set_option maxRecDepth 100000 in
theorem spec_l7Half.calls (k : Nat) (A0 : Option Addr) (c0 : Nat) (l0 : List Bool) (a1 : Int) (r : List Bool) (w : World) (hr0 : Kd.C Kd.bool w A0 l0.length l0) (hc0 : l0.length ≤ c0) (h : spec_l7Half.f k l0 a1 = some r) :
    Calls Try.prog 102 #[.slice A0 l0.length c0, .int .i64 a1] w fun e w' => ∃ v0_ : Value, e = .returned (v0_) ∧ Kd.R Kd.bool 4 w' w.heap.size (fun _ => True) v0_ r ∧ Below w.heap.size w w' := by
  have HR0 := Aside0.mk hr0
  have HC0 := Aside0.mk hc0
  clear hr0 hc0
  have HB := Aside0.mk (Below.refl w.heap.size w)
  have H : (spec_l7Half.l0 k l0 ([] : List Bool) a1) = some r := h
  clear h
  have H' := Aside0.mk H
  clear H
  go_enter Try.func102, Try.ntmps102
  go_wp2
  go_loopg [5, 6] k (fun kq v5 v6 w' => ∃ (x5_1 : List Bool) (x6_1 : Int), v6 = .int .i64 x6_1 ∧ Aside0 (spec_l7Half.l0 kq l0 x5_1 x6_1 = some r) ∧ Aside0 (kq ≤ k) ∧ Aside0 (Kd.R Kd.bool 4 w' w.heap.size (fun _ => True) v5 x5_1) ∧ Aside0 (Below w.heap.size w w'))
  case atStart => exact ⟨(([] : List Bool)), (a1), (by first | rfl | (simp; done) | (simp [*]; done)), H', ⟨Nat.le_refl _⟩, ⟨by first | exact Kd.R_nil _ _ _ _ _ | exact Kd.N_nil _ _ _ _ _ | exact Kd.V_nil _ _ _ _ _ | exact Kd.Q_nil _ _ _ _ _ | exact Kd.S_nil _ _ _ _ _⟩, ⟨bq_⟩⟩
  case round =>
    clear H'
    try clear c1
    try clear p2
    obtain ⟨x5_1, x6_1, rfl, HA, HK1, HO_5, HB⟩ := hrel
    cases gk with
    | zero => exact absurd HA.out (by simp [spec_l7Half.l0])
    | succ k1 =>
      have H := HA.out
      clear HA
      simp only [spec_l7Half.l0] at H
      by_cases c3 : x6_1 < (l0.length : Int)
      · rw [if_pos c3] at H
        have c3b0 : decide (x6_1 < (l0.length : Int)) = true := decide_eq_true c3
        clear c3
        by_cases c4 : 0 ≤ x6_1
        · rw [if_pos c4] at H
          have c4b0 : decide (0 ≤ x6_1) = true := decide_eq_true c4
          clear c4
          by_cases c5 : x5_1.length < 140737488355328
          · rw [if_pos c5] at H
            have LMc5 := Aside0.mk c5
            clear c5
            obtain ⟨y123, hy123⟩ : ∃ y_ : List Bool, y_ = (x5_1 ++ [rdOf false l0 x6_1]) := ⟨_, rfl⟩
            replace H : (spec_l7Half.l0 k1 l0 y123 (wrap64 (x6_1 + 2))) = some r := by first | (rw [hy123]; with_reducible exact H) | (have H2_ := (Option.bind_some _ _).symm.trans H; rw [hy123]; with_reducible exact H2_) | (have H2_ := (Option.bind_some _ _).symm.trans H; with_reducible exact H2_) | with_reducible exact H | (rw [hy123]; exact H) | exact H
            have Ny123 := Aside0.mk hy123
            clear hy123
            have H' := Aside0.mk H
            clear H
            have p122 : 0 ≤ (x6_1 : Int) := of_decide_eq_true (by first | (with_reducible assumption) | assumption)
            have q122 : x6_1 < (l0.length : Int) := of_decide_eq_true (by first | (with_reducible assumption) | assumption)
            obtain ⟨ad122, e122, hx122_0⟩ := Kd.at_bool HR0.out x6_1 p122 q122
            cases e122
            replace hx122_0 := (HB.out.cell (World.block_lt_of_cell? w _ hx122_0)).trans hx122_0
            replace p122 := eq_true p122
            replace q122 := eq_true q122
            go_wp2_with (first | ((with_reducible refine gate_builtin (b := .append) (xs := #[.tmp 14, .tmp 19]) rfl ?_); at_builtin; refine Kd.R_append Kd.bool (w0 := w) w.heap.size rfl (.tmp 14) (.tmp 19) 34 4 (.bool false) 1 rfl Try.underlying34 info4 rfl (by decide) (by omega) u5 x5_1 (rdOf false l0 x6_1) [.bool (rdOf false l0 x6_1)] (fun _ => True) (fun _ => False) rfl rfl ?aP (fun _ hk => hk.elim) ?aF ?aO ?aB ?aS ?aL ?_; (case aP => exact rfl); (case aB => exact (bq_)); (case aF => exact (fun _ _ => trivial)); (case aO => exact (rq_ HO_5.out)); (case aS => exact (below_size (bq_))); (case aL => have := LMc5.out; omega); intro v124 w6 ho hb hg hat; rw [← Ny123.out] at ho; have n0_ := Aside0.mk (hb); have n1_ := Aside0.mk (ho); clear HB; clear HO_5; have HB := n0_; have HO125 := n1_; clear n0_ n1_; clear ho hb hg hat))
            go_roundg k1
            case measure => have := HK1.out; omega
            case rel => exact ⟨(y123), (wrap64 (x6_1 + 2)), (by first | rfl | (simp; done) | (simp [*]; done)), H', ⟨by have := HK1.out; omega⟩, ⟨rq_ HO125.out⟩, ⟨bq_⟩⟩
          · rw [if_neg c5] at H
            exact absurd H (by simp)
        · rw [if_neg c4] at H
          exact absurd H (by simp)
      · rw [if_neg c3] at H
        have c3b0 : decide (x6_1 < (l0.length : Int)) = false := decide_eq_false c3
        clear c3
        obtain rfl := Option.some.inj H
        go_wp2
        go_ret
        exact ⟨_, by first | rfl | (simp [errW_none, errW_some] <;> rfl) | (simp [*, errW_none, errW_some] <;> rfl), rq_ HO_5.out, bq_⟩
def spec_l7SameTable.l0 : Nat → List Bool → List Bool → Int → Int → Option (Bool)
  | 0, _, _, _, _ => none
  | k + 1, x0, x1, x7, x8 => if x8 < x7 then (if 0 ≤ x8 then (if x8 < (x0.length : Int) then (if x8 < (x1.length : Int) then (if ((rdOf false x0 x8) != (rdOf false x1 x8)) = true then (some false) else (spec_l7SameTable.l0 k x0 x1 x7 (wrap64 (x8 + 1)))) else (none)) else (none)) else (none)) else (some true)
def spec_l7SameTable.f (k : Nat) (l0 : List Bool) (l1 : List Bool) : Option (Bool) := spec_l7SameTable.l0 k l0 l1 (l0.length : Int) 0
set_option maxHeartbeats 8000000 in
set_option maxRecDepth 100000 in
theorem spec_l7SameTable.calls (k : Nat) (A0 : Option Addr) (c0 : Nat) (l0 : List Bool) (A1 : Option Addr) (c1 : Nat) (l1 : List Bool) (r : Bool) (w : World) (hr0 : Kd.C Kd.bool w A0 l0.length l0) (hc0 : l0.length ≤ c0) (hr1 : Kd.C Kd.bool w A1 l1.length l1) (hc1 : l1.length ≤ c1) (h : spec_l7SameTable.f k l0 l1 = some r) :
    Calls Try.prog 103 #[.slice A0 l0.length c0, .slice A1 l1.length c1] w fun e w' => e = .returned (.bool r) ∧ Drawn0 w w' := by
  have HR0 := Aside0.mk hr0
  have HC0 := Aside0.mk hc0
  clear hr0 hc0
  have HR1 := Aside0.mk hr1
  have HC1 := Aside0.mk hc1
  clear hr1 hc1
  have H : (spec_l7SameTable.l0 k l0 l1 (l0.length : Int) 0) = some r := h
  clear h
  have H' := Aside0.mk H
  clear H
  go_enter Try.func103, Try.ntmps103
  go_wp2
  repeat (go_quiet (fail); try go_wp2)
  go_loopg [8] k (fun kq v8 w' => ∃ (x8_1 : Int), v8 = .int .i64 x8_1 ∧ Aside0 (spec_l7SameTable.l0 kq l0 l1 (l0.length : Int) x8_1 = some r) ∧ Aside0 (kq ≤ k) ∧ Drawn0 w w')
  case atStart => exact ⟨(0), (by first | rfl | (simp; done) | (simp [*]; done)), H', ⟨Nat.le_refl _⟩, by repeat (first | exact Drawn0.refl _ | apply Drawn0.step)⟩
  case round =>
    clear H'
    try clear c1
    try clear p2
    obtain ⟨x8_1, rfl, HA, HK1, ⟨m1, rfl⟩⟩ := hrel
    cases gk with
    | zero => exact absurd HA.out (by simp [spec_l7SameTable.l0])
    | succ k1 =>
      have H := HA.out
      clear HA
      simp only [spec_l7SameTable.l0] at H
      by_cases c3 : x8_1 < (l0.length : Int)
      · rw [if_pos c3] at H
        have c3b0 : decide (x8_1 < (l0.length : Int)) = true := decide_eq_true c3
        clear c3
        by_cases c4 : 0 ≤ x8_1
        · rw [if_pos c4] at H
          have c4b0 : decide (0 ≤ x8_1) = true := decide_eq_true c4
          clear c4
          by_cases c5 : x8_1 < (l0.length : Int)
          · rw [if_pos c5] at H
            have c5b0 : decide (x8_1 < (l0.length : Int)) = true := decide_eq_true c5
            clear c5
            by_cases c6 : x8_1 < (l1.length : Int)
            · rw [if_pos c6] at H
              have c6b0 : decide (x8_1 < (l1.length : Int)) = true := decide_eq_true c6
              clear c6
              by_cases c7 : ((rdOf false l0 x8_1) != (rdOf false l1 x8_1)) = true
              · rw [if_pos c7] at H
                have c7b0 : ((rdOf false l0 x8_1) != (rdOf false l1 x8_1)) = true := c7
                (try (have c7b1 : decide ((rdOf false l0 x8_1) = (rdOf false l1 x8_1)) = false := by simpa using c7))
                (try (have c7b2 : ((rdOf false l0 x8_1) == (rdOf false l1 x8_1)) = false := by simpa using c7))
                (try (have c7b3 : ¬ ((rdOf false l0 x8_1) = (rdOf false l1 x8_1)) := by simpa using c7))
                clear c7
                obtain rfl := Option.some.inj H
                have p126 : 0 ≤ (x8_1 : Int) := of_decide_eq_true (by first | (with_reducible assumption) | assumption)
                have q126 : x8_1 < (l0.length : Int) := of_decide_eq_true (by first | (with_reducible assumption) | assumption)
                obtain ⟨ad126, e126, hx126_0⟩ := Kd.at_bool HR0.out x8_1 p126 q126
                cases e126
                replace p126 := eq_true p126
                replace q126 := eq_true q126
                have p127 : 0 ≤ (x8_1 : Int) := of_decide_eq_true (by first | (with_reducible assumption) | assumption)
                have q127 : x8_1 < (l1.length : Int) := of_decide_eq_true (by first | (with_reducible assumption) | assumption)
                obtain ⟨ad127, e127, hx127_0⟩ := Kd.at_bool HR1.out x8_1 p127 q127
                cases e127
                replace p127 := eq_true p127
                replace q127 := eq_true q127
                go_wp2
                repeat (go_quiet (fail); try go_wp2)
                go_ret
                exact ⟨by first | rfl | (simp; done) | (simp [*]; done), by repeat (first | exact Drawn0.refl _ | apply Drawn0.step)⟩
              · rw [if_neg c7] at H
                have c7b0 : ((rdOf false l0 x8_1) != (rdOf false l1 x8_1)) = false := by simpa using c7
                (try (have c7b1 : decide ((rdOf false l0 x8_1) = (rdOf false l1 x8_1)) = true := by simpa using c7))
                (try (have c7b2 : ((rdOf false l0 x8_1) == (rdOf false l1 x8_1)) = true := by simpa using c7))
                clear c7
                have H' := Aside0.mk H
                clear H
                have p126 : 0 ≤ (x8_1 : Int) := of_decide_eq_true (by first | (with_reducible assumption) | assumption)
                have q126 : x8_1 < (l0.length : Int) := of_decide_eq_true (by first | (with_reducible assumption) | assumption)
                obtain ⟨ad126, e126, hx126_0⟩ := Kd.at_bool HR0.out x8_1 p126 q126
                cases e126
                replace p126 := eq_true p126
                replace q126 := eq_true q126
                have p127 : 0 ≤ (x8_1 : Int) := of_decide_eq_true (by first | (with_reducible assumption) | assumption)
                have q127 : x8_1 < (l1.length : Int) := of_decide_eq_true (by first | (with_reducible assumption) | assumption)
                obtain ⟨ad127, e127, hx127_0⟩ := Kd.at_bool HR1.out x8_1 p127 q127
                cases e127
                replace p127 := eq_true p127
                replace q127 := eq_true q127
                go_wp2
                repeat (go_quiet (fail); try go_wp2)
                go_roundg k1
                case measure => have := HK1.out; omega
                case rel => exact ⟨(wrap64 (x8_1 + 1)), (by first | rfl | (simp; done) | (simp [*]; done)), H', ⟨by have := HK1.out; omega⟩, by repeat (first | exact Drawn0.refl _ | apply Drawn0.step)⟩
            · rw [if_neg c6] at H
              exact absurd H (by simp)
          · rw [if_neg c5] at H
            exact absurd H (by simp)
        · rw [if_neg c4] at H
          exact absurd H (by simp)
      · rw [if_neg c3] at H
        have c3b0 : decide (x8_1 < (l0.length : Int)) = false := decide_eq_false c3
        clear c3
        obtain rfl := Option.some.inj H
        go_wp2
        repeat (go_quiet (fail); try go_wp2)
        go_ret
        exact ⟨by first | rfl | (simp; done) | (simp [*]; done), by repeat (first | exact Drawn0.refl _ | apply Drawn0.step)⟩
theorem spec_l7B_build.flat {w : World} {base : Nat} {ok ok' : Nat → Prop} {v : Value} {xs : List S75} (h : Kd.R k75 75 w base ok v xs) (hok : ∀ k, v.ownBlock = some k → ok k → ok' k) : Kd.R k75 75 w base ok' v xs := Kd.R_flat (fun h => h) h hok
theorem spec_l7B_build.stays {W w1 : World} {g b B : Nat} {cs : Array Value} {ok ok2 : Nat → Prop} {u V : Value} {xs : List Bool} {q : List S75} {T : Nat} (hT : 4 ≠ T) (h : Kd.R Kd.bool 4 W b ok u xs) (hk : KeepBut W w1 g V.ownBlock) (hbx : W.heap[g]? = some (.cells cs T (0, 0))) (hV : Kd.R k75 75 W B ok2 V q) : Kd.R Kd.bool 4 w1 b ok u xs := by
  have h1 := Kd.R_types (Kd.R_apart' h (Kd.R_typed hV) (fun q hq => by simp [Kd.bool, Kd.scalar] at hq; omega)) hbx (fun q hq => by simp [Kd.bool, Kd.scalar] at hq; omega)
  exact Kd.R_mono (Kd.R_step h1 (fun k hk' hl => hk.2 k hl hk'.2 hk'.1.2)) (fun k hk => hk.1.1)
theorem spec_l7B_build.away {W : World} {V V1 : Value} {gb : Nat} (h : V.ownBlock ≠ some gb) (hat : V1.ownBlock = V.ownBlock ∨ ∃ b, V1.ownBlock = some b ∧ W.heap.size ≤ b) (hlt : gb < W.heap.size) : V1.ownBlock ≠ some gb := by
  rcases hat with hat | ⟨b, hb, hle⟩
  · rw [hat]; exact h
  · rw [hb]; intro he; injection he with he; omega
theorem spec_l7B_build.older {w W : World} {V V1 V2 : Value} (hs : w.heap.size ≤ W.heap.size) (h1 : V1.ownBlock = V.ownBlock ∨ ∃ b, V1.ownBlock = some b ∧ w.heap.size ≤ b) (h2 : V2.ownBlock = V1.ownBlock ∨ ∃ b, V2.ownBlock = some b ∧ W.heap.size ≤ b) : V2.ownBlock = V.ownBlock ∨ ∃ b, V2.ownBlock = some b ∧ w.heap.size ≤ b := by
  rcases h2 with h2 | ⟨b, hb, hle⟩
  · rw [h2]; exact h1
  · exact .inr ⟨b, hb, by omega⟩
def spec_l7B_build.lp : Nat → List S75 → Int → Int → Int → Int → Option Int
  | 0, _, _, _, _, _ => none
  | k + 1, q, v, a, b, i => if i < (q.length : Int) then (if 0 ≤ i then (if ((rd_T75 q i).f0 == v && ((rd_T75 q i).f1 == a && (rd_T75 q i).f2 == b)) = true then some (i + 2) else spec_l7B_build.lp k q v a b (wrap64 (i + 1))) else none) else some (-1)
def spec_l7B_build.f : Nat → Int → List Bool → List S75 → Option (Int × List S75)
  | 0, _, _, _ => none
  | k + 1, v, t, q => if (t.length : Int) = 1 then some (if rdOf false t 0 = true then 1 else 0, q) else (spec_l7Half.f k t 0).bind fun no => (spec_l7Half.f k t 1).bind fun yes => (spec_l7SameTable.f k no yes).bind fun e => if e = true then spec_l7B_build.f k (wrap64 (v + 1)) no q else (spec_l7B_build.f k (wrap64 (v + 1)) no q).bind fun a => (spec_l7B_build.f k (wrap64 (v + 1)) yes a.2).bind fun b => if b.2.length < 1099511627776 then ((spec_l7B_build.lp k b.2 v a.1 b.1 0).bind fun x => if x < 0 then some ((b.2.length : Int) + 2, b.2 ++ [⟨v, a.1, b.1⟩]) else some (x, b.2)) else none
def spec_l7B_build.Post (w : World) (g : Nat) (vars : Int) (V : Value) (q' : List S75) (B : Nat) (r : Int) (e : Ending) (w' : World) : Prop := e = .returned (.int .i64 r) ∧ ∃ V' : Value, w'.heap[g]? = some (.cells #[.int .i64 vars, V'] 105 (0, 0)) ∧ Kd.R k75 75 w' B (fun k => k ≠ g) V' q' ∧ KeepBut w w' g V.ownBlock ∧ (V'.ownBlock = V.ownBlock ∨ ∃ b, V'.ownBlock = some b ∧ w.heap.size ≤ b) ∧ Below B w w'
theorem spec_l7B_build.Post.still {w w' : World} {g : Nat} {vars : Int} {V : Value} {q : List S75} {B : Nat} {r : Int} {e : Ending} (he : e = .returned (.int .i64 r)) (hB : B ≤ w.heap.size) (hbx : w.heap[g]? = some (.cells #[.int .i64 vars, V] 105 (0, 0))) (hV : Kd.R k75 75 w B (fun k => k ≠ g) V q) (hb : Below w.heap.size w w') : spec_l7B_build.Post w g vars V q B r e w' :=
  ⟨he, V, blk_below hbx hb, Kd.R_below hV hb, KeepBut.of_below hb _ _, .inl rfl, hb.mono hB⟩
theorem spec_l7B_build.Post.after {w W w' : World} {g : Nat} {vars : Int} {V V1 : Value} {q : List S75} {B : Nat} {r : Int} {e : Ending} (hk : KeepBut w W g V.ownBlock) (hat : V1.ownBlock = V.ownBlock ∨ ∃ b, V1.ownBlock = some b ∧ w.heap.size ≤ b) (hb : Below B w W) (h : spec_l7B_build.Post W g vars V1 q B r e w') : spec_l7B_build.Post w g vars V q B r e w' := by
  obtain ⟨he, V', h1, h2, h3, h4, h5⟩ := h
  exact ⟨he, V', h1, h2, hk.trans h3 hat, spec_l7B_build.older hk.1 hat h4, hb.trans h5⟩
section
attribute [local go_sem high] eqA75
set_option maxHeartbeats 16000000 in
set_option maxRecDepth 100000 in
theorem spec_l7B_build.callsR : ∀ (k : Nat) (g : Nat) (vars : Int) (V : Value) (q q' : List S75) (a1 : Int) (A2 : Option Addr) (c2 : Nat) (l2 : List Bool) (r : Int) (w : World) (B : Nat) (hB : B ≤ g) (hbx : w.heap[g]? = some (.cells #[.int .i64 vars, V] 105 (0, 0))) (hV : Kd.R k75 75 w B (fun k => k ≠ g) V q) (hr2 : Kd.C Kd.bool w A2 l2.length l2) (hc2 : l2.length ≤ c2) (h : spec_l7B_build.f k a1 l2 q = some (r, q')),
    Calls Try.prog 92 #[.pointer (some ⟨g, 0, none⟩), .int .i64 a1, .slice A2 l2.length c2] w (spec_l7B_build.Post w g vars V q' B r)
  | 0 => by
    intro g vars V q q' a1 A2 c2 l2 r w B hB hbx hV hr2 hc2 h
    simp [spec_l7B_build.f] at h
  | k + 1 => by
    have IH := Aside0.mk (spec_l7B_build.callsR k)
    intro g vars V q q' a1 A2 c2 l2 r w B hB hbx hV hr2 hc2 h
    have hu105 := Try.underlying105
    have hu75 := Try.underlying75
    have HS := Aside0.mk (show B ≤ w.heap.size from Nat.le_trans hB (Nat.le_of_lt (blk_lt hbx)))
    have HG := Aside0.mk (blk_lt hbx)
    have BKG := Aside0.mk hbx
    have HV := Aside0.mk hV
    have HR2 := Aside0.mk hr2
    have HC2 := Aside0.mk hc2
    have HBG := Aside0.mk hB
    clear hbx hV hr2 hc2 hB
    have HB := Aside0.mk (Below.refl w.heap.size w)
    simp only [spec_l7B_build.f] at h
    by_cases c1 : (l2.length : Int) = 1
    · rw [if_pos c1] at h
      simp only [Option.some.injEq, Prod.mk.injEq] at h
      obtain ⟨hr, rfl⟩ := h
      have HRr := Aside0.mk hr
      clear hr
      have c1b : ((l2.length : Int) == 1) = true := beq_iff_eq.mpr c1
      have c1n : (l2.length == 1) = true := beq_iff_eq.mpr (by omega)
      have c1p : (l2.length = 1) = True := eq_true (by omega)
      have p109 : 0 ≤ (0 : Int) := (by omega)
      have q109 : 0 < (l2.length : Int) := (by omega)
      obtain ⟨ad109, e109, hx109_0⟩ := Kd.at_bool HR2.out 0 p109 q109
      cases e109
      have qi109 : (0 < l2.length) = True := eq_true (by omega)
      (try rw [show ((0 : Int)).toNat = 0 from rfl] at hx109_0)
      (try rw [Addr.add_zero'] at hx109_0)
      replace p109 := eq_true p109
      replace q109 := eq_true q109
      clear c1
      by_cases c2 : rdOf false l2 0 = true
      · rw [c2] at hx109_0
        have HC := Aside0.mk c2
        clear c2
        go_enter Try.func92, Try.ntmps92
        go_wp2
        go_ret
        exact spec_l7B_build.Post.still (by have hr := HRr.out; rw [if_pos HC.out] at hr; subst hr; first | rfl | (simp; done)) HS.out BKG.out HV.out (bq_)
      · replace c2 := Bool.eq_false_iff.mpr c2
        rw [c2] at hx109_0
        have HC := Aside0.mk c2
        clear c2
        go_enter Try.func92, Try.ntmps92
        go_wp2
        go_ret
        exact spec_l7B_build.Post.still (by have hr := HRr.out; rw [if_neg (by rw [HC.out]; simp)] at hr; subst hr; first | rfl | (simp; done)) HS.out BKG.out HV.out (bq_)
    · rw [if_neg c1] at h
      have c1b : ((l2.length : Int) == 1) = false := beq_eq_false_iff_ne.mpr c1
      have c1n : (l2.length == 1) = false := beq_eq_false_iff_ne.mpr (by omega)
      have c1p : (l2.length = 1) = False := eq_false (by omega)
      obtain ⟨no, A10, h1⟩ := Option.bind_eq_some_iff.mp h
      have AN := Aside0.mk A10
      clear A10 h
      obtain ⟨yes, A10, h⟩ := Option.bind_eq_some_iff.mp h1
      have AY := Aside0.mk A10
      clear A10 h1
      obtain ⟨e, A10, h1⟩ := Option.bind_eq_some_iff.mp h
      have AE := Aside0.mk A10
      clear A10 h c1
      by_cases c8 : e = true
      · subst c8
        rw [if_pos rfl] at h1
        have A3 := Aside0.mk h1
        clear h1
        go_enter Try.func92, Try.ntmps92
        go_wp2_with (first | (go_at_call 102; refine (spec_l7Half.calls k _ _ l2 0 no _ (by (with_reducible repeat (first | apply Kd.C_alloc | apply Kd.C_drewN | apply Kd.C_drew)); exact HR2.out) HC2.out AN.out).mono ?_; rintro e w1 ⟨v0, rfl, ho, hb⟩; obtain ⟨Ano, cno, eno⟩ := Kd.R_slice ho; subst eno; have n0_ := Aside0.mk (below_step (bq_) hb); have HNO := Aside0.mk (Kd.R_lower ho (below_size (bq_))); clear HB AN; have HB := n0_; clear n0_ hb ho) | (go_at_call 102; refine (spec_l7Half.calls k _ _ l2 1 yes _ (by (with_reducible repeat (first | apply Kd.C_alloc | apply Kd.C_drewN | apply Kd.C_drew)); exact Kd.C_below HR2.out HB.out) HC2.out AY.out).mono ?_; rintro e w2 ⟨v1, rfl, ho, hb⟩; obtain ⟨Ayes, cyes, eyes⟩ := Kd.R_slice ho; subst eyes; have n0_ := Aside0.mk (below_step (bq_) hb); have n1_ := Aside0.mk (Kd.R_below HNO.out hb); have HYES := Aside0.mk (Kd.R_lower ho (below_size (bq_))); clear HB HNO AY; have HB := n0_; have HNO := n1_; clear n0_ n1_ hb ho) | (go_at_call 103; refine (spec_l7SameTable.calls k _ _ no _ _ yes true _ (by (with_reducible repeat (first | apply Kd.C_alloc | apply Kd.C_drewN | apply Kd.C_drew)); exact (Kd.R_reads' HNO.out).2.2) (Kd.R_reads' HNO.out).2.1 (by (with_reducible repeat (first | apply Kd.C_alloc | apply Kd.C_drewN | apply Kd.C_drew)); exact (Kd.R_reads' HYES.out).2.2) (Kd.R_reads' HYES.out).2.1 AE.out).mono ?_; rintro e w' ⟨rfl, ⟨nd, rfl⟩⟩) | (go_at_call 92; refine (IH.out g vars V q q' (wrap64 (a1 + 1)) _ _ no r _ B HBG.out (blk_below BKG.out (bq_)) (Kd.R_below HV.out (bq_)) (by (with_reducible repeat (first | apply Kd.C_alloc | apply Kd.C_drewN | apply Kd.C_drew)); exact (Kd.R_reads' HNO.out).2.2) (Kd.R_reads' HNO.out).2.1 A3.out).mono ?_; rintro e w3 HP0; have HP := Aside0.mk (spec_l7B_build.Post.after (KeepBut.of_below (bq_) _ _) (.inl rfl) ((show Below w.heap.size w _ from (bq_)).mono HS.out) HP0); have HE := HP0.1; clear HP0; subst HE))
        go_ret
        exact HP.out
      · replace c8 := Bool.eq_false_iff.mpr c8
        subst c8
        rw [if_neg (by simp)] at h1
        obtain ⟨⟨a, q1⟩, A10, h⟩ := Option.bind_eq_some_iff.mp h1
        have A3 := Aside0.mk A10
        clear A10 h1
        obtain ⟨⟨b, q2⟩, A10, h1⟩ := Option.bind_eq_some_iff.mp h
        have A4 := Aside0.mk A10
        clear A10 h
        by_cases c10 : q2.length < 1099511627776
        · rw [if_pos c10] at h1
          have LM := Aside0.mk c10
          obtain ⟨y, A10, h⟩ := Option.bind_eq_some_iff.mp h1
          have A5 := Aside0.mk A10
          have HH := Aside0.mk h
          clear A10 h1 h c10
          go_enter Try.func92, Try.ntmps92
          go_wp2_with (first | (go_at_call 102; refine (spec_l7Half.calls k _ _ l2 0 no _ (by (with_reducible repeat (first | apply Kd.C_alloc | apply Kd.C_drewN | apply Kd.C_drew)); exact HR2.out) HC2.out AN.out).mono ?_; rintro e w1 ⟨v0, rfl, ho, hb⟩; obtain ⟨Ano, cno, eno⟩ := Kd.R_slice ho; subst eno; have n0_ := Aside0.mk (below_step (bq_) hb); have HNO := Aside0.mk (Kd.R_lower ho (below_size (bq_))); clear HB AN; have HB := n0_; clear n0_ hb ho) | (go_at_call 102; refine (spec_l7Half.calls k _ _ l2 1 yes _ (by (with_reducible repeat (first | apply Kd.C_alloc | apply Kd.C_drewN | apply Kd.C_drew)); exact Kd.C_below HR2.out HB.out) HC2.out AY.out).mono ?_; rintro e w2 ⟨v1, rfl, ho, hb⟩; obtain ⟨Ayes, cyes, eyes⟩ := Kd.R_slice ho; subst eyes; have n0_ := Aside0.mk (below_step (bq_) hb); have n1_ := Aside0.mk (Kd.R_below HNO.out hb); have HYES := Aside0.mk (Kd.R_lower ho (below_size (bq_))); clear HB HNO AY; have HB := n0_; have HNO := n1_; clear n0_ n1_ hb ho) | (go_at_call 103; refine (spec_l7SameTable.calls k _ _ no _ _ yes false _ (by (with_reducible repeat (first | apply Kd.C_alloc | apply Kd.C_drewN | apply Kd.C_drew)); exact (Kd.R_reads' HNO.out).2.2) (Kd.R_reads' HNO.out).2.1 (by (with_reducible repeat (first | apply Kd.C_alloc | apply Kd.C_drewN | apply Kd.C_drew)); exact (Kd.R_reads' HYES.out).2.2) (Kd.R_reads' HYES.out).2.1 AE.out).mono ?_; rintro e w' ⟨rfl, ⟨nd, rfl⟩⟩) | (go_at_call 92; have HB1 := Aside0.mk (show Below w.heap.size w (w2.drewN nd) from (bq_)); refine (IH.out g vars V q q1 (wrap64 (a1 + 1)) _ _ no a _ B HBG.out (blk_below BKG.out HB1.out) (Kd.R_below HV.out HB1.out) (by (with_reducible repeat (first | apply Kd.C_alloc | apply Kd.C_drewN | apply Kd.C_drew)); exact (Kd.R_reads' HNO.out).2.2) (Kd.R_reads' HNO.out).2.1 A3.out).mono ?_; rintro e w3 ⟨rfl, V1, hbk, hv, hk, hat, hbl⟩; have n0_ := Aside0.mk (spec_l7B_build.stays (by decide) (show Kd.R Kd.bool 4 (w2.drewN nd) _ _ _ _ from (rq_ HYES.out)) hk (blk_below BKG.out HB1.out) (Kd.R_below HV.out HB1.out)); have KB1 := Aside0.mk ((KeepBut.of_below HB1.out g V.ownBlock).trans hk (.inl rfl)); have AT1 := Aside0.mk (spec_l7B_build.older HB1.out.size (.inl rfl) hat); have BL1 := Aside0.mk ((HB1.out.mono HS.out).trans hbl); have BKG1 := Aside0.mk hbk; have HV1 := Aside0.mk hv; clear HYES; have HYES := n0_; clear HB HNO HB1 n0_ hbk hv hk hat hbl A3) | ((with_reducible refine gate_dst (N := 9) rfl ?_); refine boxq_ (N := 9) (cs := #[.int .i64 0, .int .i64 0, .int .i64 0]) (t := 75) ?_; intro gb hg w15 hbox hb; have GE := Aside0.mk ((by rw [hg]; exact KB1.out.1) : w.heap.size ≤ gb); have NV1 := Aside0.mk (show V1.ownBlock ≠ some gb from fun he => by have := Kd.R_lt HV1.out gb he; omega); have n0_ := Aside0.mk (Kd.R_below HYES.out hb); have n1_ := Aside0.mk (blk_below BKG1.out hb); have n2_ := Aside0.mk (Kd.R_below HV1.out hb); have n3_ := Aside0.mk (KB1.out.trans (KeepBut.of_below hb g V.ownBlock) (.inl rfl)); have n4_ := Aside0.mk (BL1.out.trans (hb.mono (Nat.le_trans HS.out KB1.out.1))); clear HYES BKG1 HV1 KB1 BL1; have HYES := n0_; have BKG1 := n1_; have HV1 := n2_; have KB1 := n3_; have BL1 := n4_; have BN := Aside0.mk hbox; clear n0_ n1_ n2_ n3_ n4_ hb hbox hg; have hcz0 := cq_ BN.out 0 (.int .i64 0); have hcz1 := cq_ BN.out 1 (.int .i64 0); have hcz2 := cq_ BN.out 2 (.int .i64 0); have hfz0 := blk_frozen BN.out 0; have hfz1 := blk_frozen BN.out 1; have hfz2 := blk_frozen BN.out 2) | (go_at_call 92; have n0_ := Aside0.mk (show Kd.R Kd.bool 4 (((w15.setCell ⟨gb, 0, none⟩ (.int .i64 a1)).setCell ⟨gb, 1, none⟩ (.int .i64 a)).setCell ⟨gb, 2, none⟩ (.int .i64 0)) _ _ _ _ from Kd.R_set (Kd.R_set (Kd.R_set HYES.out BN.out (by decide) 0 (.int .i64 a1)) (blk_put (cs := #[.int .i64 0, .int .i64 0, .int .i64 0]) (cs' := #[.int .i64 a1, .int .i64 0, .int .i64 0]) BN.out 0 (.int .i64 a1) rfl) (by decide) 1 (.int .i64 a)) (blk_put (cs := #[.int .i64 a1, .int .i64 0, .int .i64 0]) (cs' := #[.int .i64 a1, .int .i64 a, .int .i64 0]) (blk_put (cs := #[.int .i64 0, .int .i64 0, .int .i64 0]) (cs' := #[.int .i64 a1, .int .i64 0, .int .i64 0]) BN.out 0 (.int .i64 a1) rfl) 1 (.int .i64 a) rfl) (by decide) 2 (.int .i64 0)); have n1_ := Aside0.mk (show (((w15.setCell ⟨gb, 0, none⟩ (.int .i64 a1)).setCell ⟨gb, 1, none⟩ (.int .i64 a)).setCell ⟨gb, 2, none⟩ (.int .i64 0)).heap[g]? = _ from blk_far (blk_far (blk_far BKG1.out (p := ⟨gb, 0, none⟩) (show g ≠ gb from (by have := GE.out; have := HG.out; omega)) (.int .i64 a1)) (p := ⟨gb, 1, none⟩) (show g ≠ gb from (by have := GE.out; have := HG.out; omega)) (.int .i64 a)) (p := ⟨gb, 2, none⟩) (show g ≠ gb from (by have := GE.out; have := HG.out; omega)) (.int .i64 0)); have n2_ := Aside0.mk (show Kd.R k75 75 (((w15.setCell ⟨gb, 0, none⟩ (.int .i64 a1)).setCell ⟨gb, 1, none⟩ (.int .i64 a)).setCell ⟨gb, 2, none⟩ (.int .i64 0)) _ _ _ _ from Kd.R_mono (Kd.R_far (p := ⟨gb, 2, none⟩) (Kd.R_far (p := ⟨gb, 1, none⟩) (Kd.R_far (p := ⟨gb, 0, none⟩) (spec_l7B_build.flat HV1.out (ok' := fun k => k ≠ g ∧ k ≠ gb) (fun k hk h => ⟨h, fun he => NV1.out (by rw [hk, he])⟩)) (fun k h => h.2) (.int .i64 a1)) (fun k h => h.2) (.int .i64 a)) (fun k h => h.2) (.int .i64 0)) (fun k h => h.1)); have n3_ := Aside0.mk (show KeepBut w (((w15.setCell ⟨gb, 0, none⟩ (.int .i64 a1)).setCell ⟨gb, 1, none⟩ (.int .i64 a)).setCell ⟨gb, 2, none⟩ (.int .i64 0)) _ _ from keep_far (keep_far (keep_far KB1.out (p := ⟨gb, 0, none⟩) GE.out (.int .i64 a1)) (p := ⟨gb, 1, none⟩) GE.out (.int .i64 a)) (p := ⟨gb, 2, none⟩) GE.out (.int .i64 0)); have n4_ := Aside0.mk (show Below B w (((w15.setCell ⟨gb, 0, none⟩ (.int .i64 a1)).setCell ⟨gb, 1, none⟩ (.int .i64 a)).setCell ⟨gb, 2, none⟩ (.int .i64 0)) from ((BL1.out.setCell (p := ⟨gb, 0, none⟩) (Nat.le_trans HS.out GE.out) (.int .i64 a1)).setCell (p := ⟨gb, 1, none⟩) (Nat.le_trans HS.out GE.out) (.int .i64 a)).setCell (p := ⟨gb, 2, none⟩) (Nat.le_trans HS.out GE.out) (.int .i64 0)); have n5_ := Aside0.mk (show (((w15.setCell ⟨gb, 0, none⟩ (.int .i64 a1)).setCell ⟨gb, 1, none⟩ (.int .i64 a)).setCell ⟨gb, 2, none⟩ (.int .i64 0)).heap[gb]? = _ from blk_put (cs := #[.int .i64 a1, .int .i64 a, .int .i64 0]) (cs' := #[.int .i64 a1, .int .i64 a, .int .i64 0]) (blk_put (cs := #[.int .i64 a1, .int .i64 0, .int .i64 0]) (cs' := #[.int .i64 a1, .int .i64 a, .int .i64 0]) (blk_put (cs := #[.int .i64 0, .int .i64 0, .int .i64 0]) (cs' := #[.int .i64 a1, .int .i64 0, .int .i64 0]) BN.out 0 (.int .i64 a1) rfl) 1 (.int .i64 a) rfl) 2 (.int .i64 0) rfl); generalize (((w15.setCell ⟨gb, 0, none⟩ (.int .i64 a1)).setCell ⟨gb, 1, none⟩ (.int .i64 a)).setCell ⟨gb, 2, none⟩ (.int .i64 0)) = W1 at n0_ n1_ n2_ n3_ n4_ n5_ ⊢; clear HYES BKG1 HV1 KB1 BL1 BN hcz0 hcz1 hcz2 hfz0 hfz1 hfz2; refine (IH.out g vars V1 q1 q2 (wrap64 (a1 + 1)) _ _ yes b _ B HBG.out n1_.out n2_.out (Kd.R_reads' n0_.out).2.2 (Kd.R_reads' n0_.out).2.1 A4.out).mono ?_; rintro e w5 ⟨rfl, V2, hbk, hv, hk, hat, hbl⟩; have BN := Aside0.mk (hk.blk n5_.out (by have := GE.out; have := HG.out; omega) (fun he => NV1.out he.symm)); have NV2 := Aside0.mk (spec_l7B_build.away NV1.out hat (blk_lt n5_.out)); have KB2 := Aside0.mk (n3_.out.trans hk AT1.out); have AT2 := Aside0.mk (spec_l7B_build.older n3_.out.1 AT1.out hat); have BL2 := Aside0.mk (n4_.out.trans hbl); have BKG2 := Aside0.mk hbk; have HV2 := Aside0.mk hv; clear n0_ n1_ n2_ n3_ n4_ n5_ hbk hv hk hat hbl NV1 AT1; obtain ⟨Aq, cq, eq⟩ := Kd.R_slice HV2.out; subst eq; have hcz2 := cq_ BN.out 2 (.int .i64 0); have hfz2 := blk_frozen BN.out 2; have hczg := cq_ BKG2.out 1 (.slice Aq q2.length cq); have hnb : g ≠ gb := (by have := GE.out; have := HG.out; omega); have hnc : gb ≠ g := (by have := GE.out; have := HG.out; omega)))
          have n0_ := Aside0.mk (blk_far BKG2.out (p := ⟨gb, 2, none⟩) (show g ≠ gb from (by have := GE.out; have := HG.out; omega)) (.int .i64 b))
          have n1_ := Aside0.mk (Kd.R_mono (Kd.R_far (p := ⟨gb, 2, none⟩) (spec_l7B_build.flat HV2.out (ok' := fun k => k ≠ g ∧ k ≠ gb) (fun k hk h => ⟨h, fun he => NV2.out (by rw [hk, he])⟩)) (fun k h => h.2) (.int .i64 b)) (fun k h => h.1))
          have n2_ := Aside0.mk (blk_put (cs := #[.int .i64 a1, .int .i64 a, .int .i64 0]) (cs' := #[.int .i64 a1, .int .i64 a, .int .i64 b]) BN.out 2 (.int .i64 b) rfl)
          have n3_ := Aside0.mk (keep_far KB2.out (p := ⟨gb, 2, none⟩) GE.out (.int .i64 b))
          have n4_ := Aside0.mk (BL2.out.setCell (p := ⟨gb, 2, none⟩) (Nat.le_trans HS.out GE.out) (.int .i64 b))
          clear hcz2 hfz2 hczg hnb hnc BKG2 HV2 BN KB2 BL2
          generalize w5.setCell ⟨gb, 2, none⟩ (.int .i64 b) = w6 at n0_ n1_ n2_ n3_ n4_ ⊢
          go_loopg [48] k (fun kq v48 w' => ∃ (x : Int), v48 = .int .i64 x ∧ Aside0 (spec_l7B_build.lp kq q2 a1 a b x = some y) ∧ Aside0 (kq ≤ k) ∧ Aside0 (Below w6.heap.size w6 w'))
          case atStart => exact ⟨(0), (by first | rfl | (simp; done) | (simp [*]; done)), A5, ⟨Nat.le_refl _⟩, ⟨Below.refl _ _⟩⟩
          case round =>
            clear A5
            obtain ⟨x, rfl, HA, HK1, HBL⟩ := hrel
            cases gk with
            | zero => exact absurd HA.out (by simp [spec_l7B_build.lp])
            | succ k1 =>
              have H := HA.out
              clear HA
              simp only [spec_l7B_build.lp] at H
              have h := HH.out
              have BNW := Aside0.mk (blk_below n2_.out HBL.out)
              by_cases c4 : x < (q2.length : Int)
              · rw [if_pos c4] at H
                by_cases c5 : 0 ≤ x
                · rw [if_pos c5] at H
                  obtain ⟨ad186, e186, hx186_0, hx186_1, hx186_2⟩ := at_T75 (Kd.R_reads' n1_.out).2.2 x c5 c4
                  cases e186
                  replace hx186_0 := (HBL.out.cell (World.block_lt_of_cell? w6 _ hx186_0)).trans hx186_0
                  replace hx186_1 := (HBL.out.cell (World.block_lt_of_cell? w6 _ hx186_1)).trans hx186_1
                  replace hx186_2 := (HBL.out.cell (World.block_lt_of_cell? w6 _ hx186_2)).trans hx186_2
                  have p101 := eq_true c5
                  have q101 := eq_true c4
                  clear c4
                  by_cases c7 : ((rd_T75 q2 x).f0 == a1 && ((rd_T75 q2 x).f1 == a && (rd_T75 q2 x).f2 == b)) = true
                  · rw [if_pos c7] at H
                    obtain rfl := Option.some.inj H
                    clear H
                    rw [if_neg (by omega)] at h
                    simp only [Option.some.injEq, Prod.mk.injEq] at h
                    obtain ⟨hr, rfl⟩ := h
                    have HRr := Aside0.mk hr
                    clear hr c5
                    have LQ : x < 1099511627776 := by have := LM.out; have := of_eq_true q101; omega
                    have LQ0 : -1 < x := by have := of_eq_true p101; omega
                    have hw2 : wrap64 (x + 2) = x + 2 := by unfold wrap64; omega
                    have HW2 := Aside0.mk hw2
                    clear hw2
                    go_wp2_with (((with_reducible refine gate_dst (N := 11) rfl ?_); refine boxq_ (N := 11) (cs := #[.int .i64 0, .int .i64 0, .int .i64 0]) (t := 75) ?_; intro gx hg wx hbox hb; have GX := Aside0.mk ((by rw [hg]; exact HBL.out.size) : w6.heap.size ≤ gx); have NX := Aside0.mk (show gb ≠ gx by rw [hg]; exact Nat.ne_of_lt (blk_lt BNW.out)); have n9_ := Aside0.mk (below_step HBL.out hb); have BNX := Aside0.mk (blk_below BNW.out hb); clear HBL BNW; have HBL := n9_; have BX := Aside0.mk hbox; clear n9_ hb hbox hg; have hnb := NX.out; have hnc := Ne.symm NX.out; have hcx0 := cq_ BX.out 0 (.int .i64 0); have hcx1 := cq_ BX.out 1 (.int .i64 0); have hcx2 := cq_ BX.out 2 (.int .i64 0); have hfx0 := blk_frozen BX.out 0; have hfx1 := blk_frozen BX.out 1; have hfx2 := blk_frozen BX.out 2; have hcn0 := cq_ BNX.out 0 (.int .i64 a1); have hcn1 := cq_ BNX.out 1 (.int .i64 a); have hcn2 := cq_ BNX.out 2 (.int .i64 b)))
                    go_ret
                    have HBF := Aside0.mk (show Below w6.heap.size w6 (((wx.setCell ⟨gx, 0, none⟩ (.int .i64 (rd_T75 q2 x).f0)).setCell ⟨gx, 1, none⟩ (.int .i64 (rd_T75 q2 x).f1)).setCell ⟨gx, 2, none⟩ (.int .i64 (rd_T75 q2 x).f2)) from below_set (below_set (below_set HBL.out GX.out) GX.out) GX.out)
                    exact ⟨by have hr := HRr.out; have hw := HW2.out; first | (subst hr; simp [*]; done) | (subst hr; simp; omega), _, blk_below n0_.out HBF.out, Kd.R_below n1_.out HBF.out, n3_.out.trans (KeepBut.of_below HBF.out g V.ownBlock) (.inl rfl), AT2.out, n4_.out.trans (HBF.out.mono (Nat.le_trans HS.out n3_.out.1))⟩
                  · rw [if_neg c7] at H
                    have c7b0 : ((rd_T75 q2 x).f0 == a1 && ((rd_T75 q2 x).f1 == a && (rd_T75 q2 x).f2 == b)) = false := by simpa using c7
                    have H' := Aside0.mk H
                    clear H h c5 c7
                    go_wp2_with (((with_reducible refine gate_dst (N := 11) rfl ?_); refine boxq_ (N := 11) (cs := #[.int .i64 0, .int .i64 0, .int .i64 0]) (t := 75) ?_; intro gx hg wx hbox hb; have GX := Aside0.mk ((by rw [hg]; exact HBL.out.size) : w6.heap.size ≤ gx); have NX := Aside0.mk (show gb ≠ gx by rw [hg]; exact Nat.ne_of_lt (blk_lt BNW.out)); have n9_ := Aside0.mk (below_step HBL.out hb); have BNX := Aside0.mk (blk_below BNW.out hb); clear HBL BNW; have HBL := n9_; have BX := Aside0.mk hbox; clear n9_ hb hbox hg; have hnb := NX.out; have hnc := Ne.symm NX.out; have hcx0 := cq_ BX.out 0 (.int .i64 0); have hcx1 := cq_ BX.out 1 (.int .i64 0); have hcx2 := cq_ BX.out 2 (.int .i64 0); have hfx0 := blk_frozen BX.out 0; have hfx1 := blk_frozen BX.out 1; have hfx2 := blk_frozen BX.out 2; have hcn0 := cq_ BNX.out 0 (.int .i64 a1); have hcn1 := cq_ BNX.out 1 (.int .i64 a); have hcn2 := cq_ BNX.out 2 (.int .i64 b)))
                    go_roundg k1
                    case measure => have := HK1.out; omega
                    case rel => exact ⟨(wrap64 (x + 1)), (by first | rfl | (simp; done) | (simp [*]; done)), H', ⟨by have := HK1.out; omega⟩, ⟨below_set (below_set (below_set HBL.out GX.out) GX.out) GX.out⟩⟩
                · rw [if_neg c5] at H
                  exact absurd H (by simp)
              · rw [if_neg c4] at H
                have c4b0 : decide (x < (q2.length : Int)) = false := decide_eq_false c4
                clear c4
                obtain rfl := Option.some.inj H
                clear H
                rw [if_pos (by omega)] at h
                simp only [Option.some.injEq, Prod.mk.injEq] at h
                obtain ⟨hr, rfl⟩ := h
                have HRr := Aside0.mk hr
                clear hr
                replace n4_ := Aside0.mk (n4_.out.trans (HBL.out.mono (Nat.le_trans HS.out n3_.out.1)))
                replace n0_ := Aside0.mk (blk_below n0_.out HBL.out)
                replace n1_ := Aside0.mk (Kd.R_below n1_.out HBL.out)
                replace n3_ := Aside0.mk (n3_.out.trans (KeepBut.of_below HBL.out g V.ownBlock) (.inl rfl))
                clear n2_ HBL
                have n2_ := BNW
                clear BNW
                go_wp2
                refine start_ (n := 11) (S := fun w' => w'.cell? ⟨g, 1, none⟩ = some (.slice Aq q2.length cq) ∧ w'.cell? ⟨gb, 0, none⟩ = some (.int .i64 a1) ∧ w'.cell? ⟨gb, 1, none⟩ = some (.int .i64 a) ∧ w'.cell? ⟨gb, 2, none⟩ = some (.int .i64 b)) (ds := [7, 10]) #[false, false, false, false, false, false, false, false, false, false, false] (by kernel_rfl) rfl rfl ⟨(blk_cell n0_.out 1).trans rfl, (blk_cell n2_.out 0).trans rfl, (blk_cell n2_.out 1).trans rfl, (blk_cell n2_.out 2).trans rfl⟩ (fun hHeld => ?_)
                replace n0_ := Aside0.mk (blk_drew n0_.out)
                replace n1_ := Aside0.mk (Kd.R_drew n1_.out)
                replace n2_ := Aside0.mk (blk_drew n2_.out)
                replace n3_ := Aside0.mk (keep_drew n3_.out)
                replace n4_ := Aside0.mk (below_drew n4_.out)
                generalize wr.drew = w9 at n0_ n1_ n2_ n3_ n4_ hHeld ⊢
                refine pure_ (i := 0) (N := some 59) (v := ?_) (a' := ?_) #[true, false, false, false, false, false, false, false, false, false, false] rfl rfl (by kernel_rfl) (fun _ _ _ h => h) (Or.inl ⟨by rfl, ?_⟩) ?_ ?_
                rotate_left
                · intro w'
                  go_simp
                  with_reducible rfl
                rotate_left
                · simp only [Act.put, List.setIfInBounds_toArray, List.set_cons_zero, List.set_cons_succ, i64_w, i32_w]
                  rfl
                refine pure_ (i := 1) (N := some 60) (v := ?_) (a' := ?_) #[true, true, false, false, false, false, false, false, false, false, false] rfl rfl (by kernel_rfl) (fun _ _ _ h => h) (Or.inl ⟨by rfl, ?_⟩) ?_ ?_
                rotate_left
                · intro w'
                  go_simp
                  with_reducible rfl
                rotate_left
                · simp only [Act.put, List.setIfInBounds_toArray, List.set_cons_zero, List.set_cons_succ, i64_w, i32_w]
                  rfl
                refine pure_ (i := 2) (N := some 61) (v := ?_) (a' := ?_) #[true, true, true, false, false, false, false, false, false, false, false] rfl rfl (by kernel_rfl) (fun _ _ _ h => h) (Or.inl ⟨by rfl, ?_⟩) ?_ ?_
                rotate_left
                · intro w'
                  go_simp
                  with_reducible rfl
                rotate_left
                · simp only [Act.put, List.setIfInBounds_toArray, List.set_cons_zero, List.set_cons_succ, i64_w, i32_w]
                  rfl
                refine pure_ (i := 3) (N := some 62) (v := ?_) (a' := ?_) #[true, true, true, true, false, false, false, false, false, false, false] rfl rfl (by kernel_rfl) (fun _ _ _ h => h) (Or.inl ⟨by rfl, ?_⟩) ?_ ?_
                rotate_left
                · intro w'
                  go_simp
                  with_reducible rfl
                rotate_left
                · simp only [Act.put, List.setIfInBounds_toArray, List.set_cons_zero, List.set_cons_succ, i64_w, i32_w]
                  rfl
                refine take_ (i := 4) (N := some 63) (v := ?_) (a' := ?_) #[true, true, true, true, true, false, false, false, false, false, false] rfl rfl (by kernel_rfl) (fun _ _ _ h => h) (Or.inl ⟨by rfl, ?_⟩) hHeld ?_ ?_
                rotate_left
                · rintro w' ⟨s0, s1, s2, s3⟩
                  go_simp
                  with_reducible rfl
                rotate_left
                · simp only [Act.put, List.setIfInBounds_toArray, List.set_cons_zero, List.set_cons_succ, i64_w, i32_w]
                  rfl
                refine take_ (i := 5) (N := some 64) (v := ?_) (a' := ?_) #[true, true, true, true, true, true, false, false, false, false, false] rfl rfl (by kernel_rfl) (fun _ _ _ h => h) (Or.inl ⟨by rfl, ?_⟩) hHeld ?_ ?_
                rotate_left
                · rintro w' ⟨s0, s1, s2, s3⟩
                  go_simp
                  with_reducible rfl
                rotate_left
                · simp only [Act.put, List.setIfInBounds_toArray, List.set_cons_zero, List.set_cons_succ, i64_w, i32_w]
                  rfl
                refine one_ (i := 6) (N := some 65) #[true, true, true, true, true, true, true, false, false, false, false] rfl rfl (by kernel_rfl) (by decide) (fun K hK => ?_)
                refine value_ (w1 := ?_) (v := ?_) (by rfl) rfl ?_ ?_
                rotate_left 2
                · go_simp
                  constructor
                  · rfl
                  · rfl
                refine hK.out _ _ ⟨(blk_cell (blk_alloc n0_.out _) 1).trans rfl, (blk_cell (blk_alloc n2_.out _) 0).trans rfl, (blk_cell (blk_alloc n2_.out _) 1).trans rfl, (blk_cell (blk_alloc n2_.out _) 2).trans rfl⟩ (fun hHeld2 => ?_)
                clear hK K hHeld
                refine norm_ (a' := ?_) ?_ ?_
                rotate_left
                · show Act.put _ (some 65) _ = _
                  simp only [Act.put, List.setIfInBounds_toArray, List.set_cons_zero, List.set_cons_succ, i64_w, i32_w]
                  rfl
                refine last_ (i := 7) (N := some 66) #[true, true, true, true, true, true, true, true, false, false, false] rfl rfl (by kernel_rfl) (by decide) (fun K hK => ?_)
                refine Kd.R_append_step k75 (w0 := w9) B (by rfl) (.tmp 63) (.tmp 65) 28 75 (.agg #[(.int .i64 0), (.int .i64 0), (.int .i64 0)]) 24 rfl Try.underlying28 info75 rfl (by decide) (by omega) (.slice Aq q2.length cq) q2 ⟨a1, a, b⟩ [.int .i64 a1, .int .i64 a, .int .i64 b] (fun k => k ≠ g) (fun _ => False) rfl rfl ?aP (fun _ hk => hk.elim) ?aF ?aO ?aB ?aS ?aL ?_
                (case aP => exact k75_mkM _ _ _ ⟨a1, a, b⟩)
                (case aB => exact Below.refl _ _)
                (case aF => exact (fun k_ hk => by have := blk_lt n0_.out; omega))
                (case aO => exact n1_.out)
                (case aS => exact Nat.le_trans HBG.out (Nat.le_of_lt (blk_lt n0_.out)))
                (case aL => have := LM.out; omega)
                intro V3 w10 ho hb hg hat
                obtain ⟨A3_, c3_, e3_⟩ := Kd.R_slice ho
                rw [List.length_append] at e3_
                replace e3_ : V3 = .slice A3_ (q2.length + 1) c3_ := e3_
                subst e3_
                have NG := Aside0.mk (show some g ≠ (Value.slice Aq q2.length cq).ownBlock from fun he => n1_.out.1 g he.symm rfl)
                replace n0_ := Aside0.mk (blk_grown n0_.out hg NG.out)
                have n5_ := Aside0.mk n3_.out.1
                replace n3_ := Aside0.mk (n3_.out.trans (KeepBut.of_grown hg g) AT2.out)
                replace n4_ := Aside0.mk (n4_.out.trans hb)
                clear n1_ n2_ hg hb hHeld2
                refine hK.out _ _ ?_
                clear hK K
                refine norm_ (a' := ?_) ?_ ?_
                rotate_left
                · show Act.put _ (some 66) _ = _
                  simp only [Act.put, List.setIfInBounds_toArray, List.set_cons_zero, List.set_cons_succ, i64_w, i32_w]
                  rfl
                have hczg := cq_ n0_.out 1 (.slice Aq q2.length cq)
                have hfzg := blk_frozen n0_.out 1
                refine pure_ (i := 8) (N := some 67) (v := ?_) (a' := ?_) #[true, true, true, true, true, true, true, true, true, false, false] rfl rfl (by kernel_rfl) (fun _ _ _ h => h) (Or.inl ⟨by rfl, ?_⟩) ?_ ?_
                rotate_left
                · intro w'
                  go_simp
                  with_reducible rfl
                rotate_left
                · simp only [Act.put, List.setIfInBounds_toArray, List.set_cons_zero, List.set_cons_succ, i64_w, i32_w]
                  rfl
                refine pure_ (i := 9) (N := some 68) (v := ?_) (a' := ?_) #[true, true, true, true, true, true, true, true, true, true, false] rfl rfl (by kernel_rfl) (fun _ _ _ h => h) (Or.inl ⟨by rfl, ?_⟩) ?_ ?_
                rotate_left
                · intro w'
                  go_simp
                  with_reducible rfl
                rotate_left
                · simp only [Act.put, List.setIfInBounds_toArray, List.set_cons_zero, List.set_cons_succ, i64_w, i32_w]
                  rfl
                refine last_ (i := 10) (N := none) #[true, true, true, true, true, true, true, true, true, true, true] rfl rfl (by kernel_rfl) (by decide) (fun K hK => ?_)
                refine skip_ (w1 := ?_) (by rfl) rfl ?_ ?_
                rotate_left
                · go_simp
                  rfl
                refine hK.out _ _ ?_
                clear hK K
                refine done_ (by kernel_rfl) ?_
                have n1_ := Aside0.mk (Kd.R_mono (Kd.R_far (p := ⟨g, 1, none⟩) ho (fun k h => h) (Value.slice A3_ (q2.length + 1) c3_)) (fun k h => h))
                replace n0_ := Aside0.mk (blk_put (cs := #[.int .i64 vars, .slice Aq q2.length cq]) (cs' := #[.int .i64 vars, (Value.slice A3_ (q2.length + 1) c3_)]) n0_.out 1 (Value.slice A3_ (q2.length + 1) c3_) rfl)
                replace n3_ := Aside0.mk (n3_.out.set_ 1 (Value.slice A3_ (q2.length + 1) c3_))
                replace n4_ := Aside0.mk (n4_.out.setCell (p := ⟨g, 1, none⟩) HBG.out (Value.slice A3_ (q2.length + 1) c3_))
                have HAT := Aside0.mk hat
                clear ho hat hczg hfzg
                generalize w10.setCell ⟨g, 1, none⟩ (Value.slice A3_ (q2.length + 1) c3_) = w11 at n0_ n1_ n3_ n4_ ⊢
                have hczg := cq_ n0_.out 1 (Value.slice A3_ (q2.length + 1) c3_)
                have LMo := LM.out
                go_wp2
                go_ret
                exact ⟨by have hr := HRr.out; subst hr; first | rfl | (simp; done) | (simp; omega) | (simp [wrap64]; omega), _, n0_.out, n1_.out, n3_.out, spec_l7B_build.older n5_.out AT2.out HAT.out, n4_.out⟩
        · rw [if_neg c10] at h1
          exact absurd h1 (by simp)
end
def spec_l7Of.f (k : Nat) (a0 : Int) (l1 : List Bool) : Option (Int × (List (S75)) × Int) := (spec_l7B_build.f k 1 l1 []).bind fun x => if x.2.length < 1099511627776 then some (a0, x.2, x.1) else none
set_option maxHeartbeats 8000000 in
set_option maxRecDepth 100000 in
theorem spec_l7Of.calls (k : Nat) (a0 : Int) (A1 : Option Addr) (c1 : Nat) (l1 : List Bool) (r1 : Int) (r2 : List (S75)) (r3 : Int) (w : World) (hr1 : Kd.C Kd.bool w A1 l1.length l1) (hc1 : l1.length ≤ c1) (h : spec_l7Of.f k a0 l1 = some (r1, r2, r3)) :
    Calls Try.prog 62 #[.int .i64 a0, .slice A1 l1.length c1] w fun e w' => ∃ v1_ : Value, e = .returned (.agg #[.int .i64 r1, v1_, .int .i64 r3]) ∧ Kd.R k75 75 w' w.heap.size (fun _ => True) v1_ r2 ∧ Below w.heap.size w w' := by
  have hu30 := Try.underlying30
  have hu105 := Try.underlying105
  have HR1 := Aside0.mk hr1
  have HC1 := Aside0.mk hc1
  have HB := Aside0.mk (Below.refl w.heap.size w)
  obtain ⟨⟨x, q⟩, A10, H⟩ := Option.bind_eq_some_iff.mp h
  have A1 := Aside0.mk A10
  clear hr1 hc1 A10 h
  by_cases cl : q.length < 1099511627776
  · rw [if_pos cl] at H
    have LM := Aside0.mk cl
    clear cl
    simp only [Option.some.injEq, Prod.mk.injEq] at H
    obtain ⟨rfl, rfl, rfl⟩ := H
    go_enter Try.func62, Try.ntmps62
    go_wp2_with (first | ((with_reducible refine gate_dst (N := 4) rfl ?_); refine boxq_ (N := 4) (cs := #[.int .i64 0, .slice none 0 0, .int .i64 0]) (t := 30) ?_; intro g4 hg w3 hbox hb; have n0_ := Aside0.mk (below_step (bq_) hb); have GE4 := Aside0.mk ((by rw [hg]; exact (below_size (bq_))) : w.heap.size ≤ g4); clear HB; have HB := n0_; have BK4 := Aside0.mk hbox; clear n0_ hb hbox hg) | ((with_reducible refine gate_dst (N := 9) rfl ?_); refine boxq_ (N := 9) (cs := #[.int .i64 a0, .slice none 0 0]) (t := 105) ?_; intro g5 hg w4 hbox hb; have NE := Aside0.mk ((by rw [hg]; exact Nat.ne_of_lt (blk_lt BK4.out)) : g4 ≠ g5); have n0_ := Aside0.mk (below_step (bq_) hb); have n1_ := Aside0.mk (blk_below BK4.out hb); have GE5 := Aside0.mk ((by rw [hg]; exact (below_size (bq_))) : w.heap.size ≤ g5); clear HB BK4; have HB := n0_; have BK4 := n1_; have BK5 := Aside0.mk hbox; clear n0_ n1_ hb hbox hg) | (go_at_call 92; refine (spec_l7B_build.callsR k g5 a0 (.slice none 0 0) [] q 1 _ _ l1 x _ w.heap.size GE5.out BK5.out (Kd.R_nil _ _ _ _ _) (Kd.C_below HR1.out HB.out) HC1.out A1.out).mono ?_; rintro e w5 ⟨rfl, V1, hbk, hv, hk, hat, hbl⟩; have n4_ := Aside0.mk (hk.blk BK4.out NE.out (by simp [Value.ownBlock])); have HV := Aside0.mk hv; have n0_ := Aside0.mk (HB.out.trans hbl); clear BK4 BK5 HB; have BK4 := n4_; have BK5 := Aside0.mk hbk; have HB := n0_; clear n0_ n4_ hbk hv hk hat hbl; obtain ⟨Av, cv, ev⟩ := Kd.R_slice HV.out; subst ev; have hcz0 := cq_ BK5.out 0 (.int .i64 a0); have hcz1 := cq_ BK5.out 1 (.slice Av q.length cv)) | ((with_reducible refine gate_dst (N := 14) rfl ?_); refine Kd.R_lit k75 _ 75 ?hg (N := 14) ?hd (xs := ([] : List S75)) (inner := []) (ok := fun _ => True) (okp := fun _ => True) ?hr ?hp (fun _ hk => hk) trivial (Below.refl _ _) (Nat.le_refl _) (by simp) ?_; (case hd => rfl); (case hg => rfl); (case hr => first | (go_simp; done) | (go_simp; rfl)); (case hp => exact (Reps.none _ _)); intro v14 w14 ho hb hg_ hnew_; have n0_ := Aside0.mk (Kd.R_lower ho (below_size (bq_))); have n1_ := Aside0.mk (blk_below BK4.out hb); have n2_ := Aside0.mk (blk_below BK5.out hb); have n3_ := Aside0.mk (Kd.R_below HV.out hb); have n4_ := Aside0.mk (below_step (bq_) hb); have NV14 := Aside0.mk (show ∀ k, v14.ownBlock = some k → g4 ≠ k from fun k hk => by have := Kd.R_base ho k hk; have := blk_lt BK4.out; omega); clear HB BK4 BK5 HV hcz0 hcz1; have HL := n0_; have BK4 := n1_; have BK5 := n2_; have HV := n3_; have HB := n4_; clear n0_ n1_ n2_ n3_ n4_ ho hb hg_ hnew_; have hcz0 := cq_ BK5.out 0 (.int .i64 a0); have hcz1 := cq_ BK5.out 1 (.slice Av q.length cv)) | ((with_reducible refine gate_builtin (b := .append) (xs := #[.tmp 14, .tmp 18]) rfl ?_); at_builtin; refine Kd.R_append_rows k75 (w0 := w) w.heap.size rfl (.tmp 14) (.tmp 18) 28 75 (.agg #[(.int .i64 0), (.int .i64 0), (.int .i64 0)]) 24 rfl Try.underlying28 info75 rfl (by decide) (by omega) v14 [] q _ _ _ (fun _ => True) (fun _ => False) rfl rfl ?aO ?aR (fun _ _ h => h) (fun _ h => h.elim) ?aF ?aB ?aS ?aL ?_; (case aR => exact (Kd.R_reads' HV.out).2.2); (case aB => exact (bq_)); (case aF => exact (fun _ _ => trivial)); (case aO => exact HL.out); (case aS => exact (below_size (bq_))); (case aL => have := LM.out; simp only [List.length_nil]; omega); intro v19 w19 ho hb hg hat; have n0_ := Aside0.mk (blk_grown BK4.out hg (fun he => NV14.out g4 he.symm rfl)); have NV := Aside0.mk (show v19.ownBlock ≠ some g4 from spec_l7B_build.away (fun he => NV14.out g4 he rfl) hat (blk_lt BK4.out)); have n1_ := Aside0.mk hb; have HO := Aside0.mk ho; clear HB BK4 BK5 HL HV hcz0 hcz1; have BK4 := n0_; have HB := n1_; clear n0_ n1_ ho hb hg hat; obtain ⟨Ao, co, eo⟩ := Kd.R_slice HO.out; rw [List.nil_append] at eo; subst eo; have hcy0 := cq_ BK4.out 0 (.int .i64 0); have hcy1 := cq_ BK4.out 1 (.slice none 0 0); have hcy2 := cq_ BK4.out 2 (.int .i64 0); have hfy0 := blk_frozen BK4.out 0; have hfy1 := blk_frozen BK4.out 1; have hfy2 := blk_frozen BK4.out 2))
    refine bodyPost_ret (results_cell_row rfl _ _ g4 30 #[.int .i64 a0, (.slice Ao q.length co), .int .i64 x] (0, 0) _ rfl (blk_put (cs := #[.int .i64 a0, (.slice Ao q.length co), .int .i64 0]) (cs' := #[.int .i64 a0, (.slice Ao q.length co), .int .i64 x]) (blk_put (cs := #[.int .i64 a0, .slice none 0 0, .int .i64 0]) (cs' := #[.int .i64 a0, (.slice Ao q.length co), .int .i64 0]) (blk_put (cs := #[.int .i64 0, .slice none 0 0, .int .i64 0]) (cs' := #[.int .i64 a0, .slice none 0 0, .int .i64 0]) (BK4.out) 0 (.int .i64 a0) rfl) 1 ((.slice Ao q.length co)) rfl) 2 (.int .i64 x) rfl) Try.underlying30 rfl (by kernel_rfl)) rfl ?_
    exact ⟨_, by first | rfl | (simp; done) | (simp [*]; done), Kd.R_mono (Kd.R_far (p := ⟨g4, 2, none⟩) (Kd.R_far (p := ⟨g4, 1, none⟩) (Kd.R_far (p := ⟨g4, 0, none⟩) (spec_l7B_build.flat (show Kd.R k75 75 w19 w.heap.size (fun _ => True) (.slice Ao q.length co) q from HO.out) (ok' := fun k => k ≠ g4) (fun k hk _ => fun he => NV.out (by rw [hk, he]))) (fun k h => h) (.int .i64 a0)) (fun k h => h) ((.slice Ao q.length co))) (fun k h => h) (.int .i64 x)) (fun _ _ => trivial), below_set (j := 2) (v := (.int .i64 x)) (below_set (j := 1) (v := ((.slice Ao q.length co))) (below_set (j := 0) (v := (.int .i64 a0)) (HB.out) GE4.out) GE4.out) GE4.out⟩
  · rw [if_neg cl] at H
    exact absurd H (by simp)
def spec_l1In.f (a0 : Int) (a1 : Int) (a2 : Int) : Option (Bool) := if a0 ≥ a1 then (some (decide (a0 ≤ a2))) else (some false)
set_option maxHeartbeats 8000000 in
set_option maxRecDepth 100000 in
theorem spec_l1In.calls (a0 : Int) (a1 : Int) (a2 : Int) (r : Bool) (w : World) (h : spec_l1In.f a0 a1 a2 = some r) :
    Calls Try.prog 67 #[.int .i64 a0, .int .i64 a1, .int .i64 a2] w fun e w' => e = .returned (.bool r) ∧ Drawn0 w w' := by
  have H : (if a0 ≥ a1 then (some (decide (a0 ≤ a2))) else (some false)) = some r := h
  clear h
  by_cases c4 : a0 ≥ a1
  · rw [if_pos c4] at H
    have c4b0 : decide (a1 ≤ a0) = true := decide_eq_true c4
    clear c4
    obtain rfl := Option.some.inj H
    go_enter Try.func67, Try.ntmps67
    go_wp2
    go_ret
    exact ⟨by first | rfl | (simp; done) | (simp [*]; done), by repeat (first | exact Drawn0.refl _ | apply Drawn0.step)⟩
  · rw [if_neg c4] at H
    have c4b0 : decide (a1 ≤ a0) = false := decide_eq_false c4
    clear c4
    obtain rfl := Option.some.inj H
    go_enter Try.func67, Try.ntmps67
    go_wp2
    go_ret
    exact ⟨by first | rfl | (simp; done) | (simp [*]; done), by repeat (first | exact Drawn0.refl _ | apply Drawn0.step)⟩
end Go.Proofs.Ytpndhlcbfobelaa.PBE
