import Derived.Test.YtgahidilhjijiaaPGGx0
import Derived.Test.YtgahidilhjijiaaPGGx1
namespace Go.Proofs.Ytgahidilhjijiaa.PGG
open Go.RowKit Go.Proofs.YtgahidilhjijiaaW.PrintWords Go.Proofs.YtgahidilhjijiaaW.PrintLast Go.Proofs.YtgahidilhjijiaaW.PrintMore
attribute [local go_sem] max2_int min2_int max_two min_two max_three min_three max_four min_four   -- for this text's walks alone
set_option linter.unusedVariables false
set_option linter.unusedSimpArgs false
mutual
def spec_CleanClause.l0 : Nat → List Int → List Int → Int → Int → Option (List Int × Bool)
 | 0, _, _, _, _ => none
 | k + 1, x4, x10, x11, x12 => if x12 < x11 then (if 0 ≤ x12 then (if x12 < (x10.length : Int) then (if (rd x10 x12) = 0 then (spec_CleanClause.j1 k x4 (rd x10 x12) x10 x11 x12 true) else ((spec_l1In.f (rd x10 x12) (-12) 12).bind fun t157 => (if t157 = true then ((spec_l1Has.f k x4 (wrap64 (-(rd x10 x12)))).bind fun t158 => (spec_CleanClause.j1 k x4 (rd x10 x12) x10 x11 x12 t158)) else (spec_CleanClause.j1 k x4 (rd x10 x12) x10 x11 x12 true)))) else (none)) else (none)) else (some (x4, true))
def spec_CleanClause.j1 : Nat → List Int → Int → List Int → Int → Int → Bool → Option (List Int × Bool)
 | 0, _, _, _, _, _, _ => none
 | k + 1, x4, x6, x10, x11, x12, x28 => if x28 = true then (some (([] : List Int), false)) else ((spec_l1Has.f k x4 x6).bind fun t159 => (if t159 = true then (spec_CleanClause.l0 k x4 x10 x11 (wrap64 (x12 + 1))) else (if x4.length < 17592186044416 then (spec_CleanClause.l0 k (x4 ++ [x6]) x10 x11 (wrap64 (x12 + 1))) else (none))))
end
def spec_CleanClause.f (k : Nat) (l0 : List Int) : Option (List Int × Bool) := if (l0.length : Int) > 40 then (some (([] : List Int), false)) else (spec_CleanClause.l0 k ([] : List Int) l0 (l0.length : Int) 0)
set_option maxHeartbeats 8000000 in
set_option maxRecDepth 100000 in
theorem spec_CleanClause.calls (k : Nat) (A0 : Option Addr) (c0 : Nat) (l0 : List Int) (r1 : List Int) (r2 : Bool) (w : World) (hr0 : Kd.C (Kd.int .i64) w A0 l0.length l0) (hc0 : l0.length ≤ c0) (h : spec_CleanClause.f k l0 = some (r1, r2)) :
  Calls Try.prog 71 #[.slice A0 l0.length c0] w fun e w' => ∃ v0_ : Value, e = .returned (.tuple #[v0_, .bool r2]) ∧ Kd.R (Kd.int .i64) 3 w' w.heap.size (fun _ => True) v0_ r1 ∧ Below w.heap.size w w' := by
 have HR0 := am_ hr0
 have HC0 := am_ hc0
 clear hr0 hc0
 have HB := am_ (Below.refl w.heap.size w)
 have H : (if (l0.length : Int) > 40 then (some (([] : List Int), false)) else (spec_CleanClause.l0 k ([] : List Int) l0 (l0.length : Int) 0)) = some (r1, r2) := h
 clear h
 by_cases c2 : (l0.length : Int) > 40
 ·rw [if_pos c2] at H
  have c2b0 : decide (40 < (l0.length : Int)) = true := decide_eq_true c2
  have c2b1 : decide (40 < l0.length) = true := decide_eq_true (by omega)
  clear c2
  simp only [Option.some.injEq, Prod.mk.injEq] at H
  obtain ⟨rfl, rfl⟩ := H
  go_enter Try.func71, Try.ntmps71
  go_wp2
  go_ret2
  exact ⟨_, by first | rfl | (simp [errW_none, errW_some] <;> rfl) | (simp [*, errW_none, errW_some] <;> rfl), by first | exact Kd.R_nil _ _ _ _ _ | exact Kd.N_nil _ _ _ _ _ | exact Kd.V_nil _ _ _ _ _ | exact Kd.Q_nil _ _ _ _ _ | exact Kd.S_nil _ _ _ _ _, bq_⟩
 ·rw [if_neg c2] at H
  have c2b0 : decide (40 < (l0.length : Int)) = false := decide_eq_false c2
  have c2b1 : decide (40 < l0.length) = false := decide_eq_false (by omega)
  clear c2
  have H' := am_ H
  clear H
  go_enter Try.func71, Try.ntmps71
  go_wp2
  go_loopg [4, 12] k (fun kq v4 v12 w' => ∃ (x4_1 : List Int) (x12_1 : Int), v12 = .int .i64 x12_1 ∧ Aside0 (spec_CleanClause.l0 kq x4_1 l0 (l0.length : Int) x12_1 = some (r1, r2)) ∧ Aside0 (kq ≤ k) ∧ Aside0 (Kd.R (Kd.int .i64) 3 w' w.heap.size (fun _ => True) v4 x4_1) ∧ Aside0 (Below w.heap.size w w'))
  case atStart => exact ⟨(([] : List Int)), (0), y53_, H', ⟨Nat.le_refl _⟩, ⟨by first | exact Kd.R_nil _ _ _ _ _ | exact Kd.N_nil _ _ _ _ _ | exact Kd.V_nil _ _ _ _ _ | exact Kd.Q_nil _ _ _ _ _ | exact Kd.S_nil _ _ _ _ _⟩, ⟨bq_⟩⟩
  case round =>
   clear H'
   try clear c2
   try clear c2b0
   try clear c2b1
   try clear p2
   obtain ⟨x4_1, x12_1, rfl, HA, HK1, HO_4, HB⟩ := hrel
   cases gk with
   | zero => exact absurd HA.out (by simp [spec_CleanClause.l0])
   | succ k1 =>
    have H := HA.out
    clear HA
    simp only [spec_CleanClause.l0] at H
    by_cases c3 : x12_1 < (l0.length : Int)
    ·rw [if_pos c3] at H
     have c3b0 : decide (x12_1 < (l0.length : Int)) = true := decide_eq_true c3
     clear c3
     by_cases c4 : 0 ≤ x12_1
     ·rw [if_pos c4] at H
      have c4b0 : decide (0 ≤ x12_1) = true := decide_eq_true c4
      clear c4
      by_cases c5 : x12_1 < (l0.length : Int)
      ·rw [if_pos c5] at H
       have c5b0 : decide (x12_1 < (l0.length : Int)) = true := decide_eq_true c5
       clear c5
       have HC6 := am_ H
       clear H
       have p156 : 0 ≤ (x12_1 : Int) := od_
       have q156 : x12_1 < (l0.length : Int) := od_
       obtain ⟨ad156, e156, hx156_0⟩ := Kd.at_int HR0.out x12_1 p156 q156
       cases e156
       replace hx156_0 := (HB.out.cell (World.block_lt_of_cell? w _ hx156_0)).trans hx156_0
       replace p156 := eq_true p156
       replace q156 := eq_true q156
       go_upto_region 7 with (fail)
       go_cut [28] (fun v28 wc => ∃ (kq : Nat) (x28_5 : Bool), v28 = .bool x28_5 ∧ Aside0 (spec_CleanClause.j1 kq x4_1 (rd l0 x12_1) l0 (l0.length : Int) x12_1 x28_5 = some (r1, r2)) ∧ Aside0 (kq ≤ k1) ∧ Aside0 (Kd.R (Kd.int .i64) 3 wc w.heap.size (fun _ => True) u4 x4_1) ∧ Aside0 (Below w.heap.size w wc))
       case first =>
        have H := HC6.out
        clear HC6
        by_cases c7 : (rd l0 x12_1) = 0
        ·rw [if_pos c7] at H
         have c7b0 : ((rd l0 x12_1) == 0) = true := beq_iff_eq.mpr c7
         have c7b1 : ((rd l0 x12_1) != 0) = false := bne_eq_false_iff_eq.mpr c7
         clear c7
         (first | rw [c7b0] | (simp only [i64_w, i32_w]; rw [c7b0]) | skip)
         have H' := am_ H
         clear H
         go_wp2
         go_meet
         case rel => exact ⟨_, (true), y53_, H', ⟨by have := HK1.out; first | omega | exact Nat.le_refl _⟩, ⟨rq_ HO_4.out⟩, ⟨bq_⟩⟩
        ·rw [if_neg c7] at H
         have c7b0 : ((rd l0 x12_1) == 0) = false := beq_eq_false_iff_ne.mpr c7
         have c7b1 : ((rd l0 x12_1) != 0) = true := bne_iff_ne.mpr c7
         (first | rw [c7b0] | (simp only [i64_w, i32_w]; rw [c7b0]) | skip)
         replace H := Option.bind_eq_some_iff.mp H
         obtain ⟨t157, A80, H⟩ := H
         replace H : (if t157 = true then ((spec_l1Has.f k1 x4_1 (wrap64 (-(rd l0 x12_1)))).bind fun t158 => (spec_CleanClause.j1 k1 x4_1 (rd l0 x12_1) l0 (l0.length : Int) x12_1 t158)) else (spec_CleanClause.j1 k1 x4_1 (rd l0 x12_1) l0 (l0.length : Int) x12_1 true)) = some (r1, r2) := H
         have A8 := am_ A80
         clear A80
         by_cases c9 : t157 = true
         ·subst c9
          have H1 : ((spec_l1Has.f k1 x4_1 (wrap64 (-(rd l0 x12_1)))).bind fun t158 => (spec_CleanClause.j1 k1 x4_1 (rd l0 x12_1) l0 (l0.length : Int) x12_1 t158)) = some (r1, r2) := by rw [if_pos rfl] at H; exact H
          clear H
          have H := H1
          clear H1
          replace H := Option.bind_eq_some_iff.mp H
          obtain ⟨t158, A100, H⟩ := H
          replace H : (spec_CleanClause.j1 k1 x4_1 (rd l0 x12_1) l0 (l0.length : Int) x12_1 t158) = some (r1, r2) := H
          have A10 := am_ A100
          clear A100
          have H' := am_ H
          clear H
          go_wp2_with (first | (go_at_call 69; (with_reducible refine (spec_l1In.calls (rd l0 x12_1) (-12) 12 true _ A8.out).mono ?_); rintro e w' ⟨rfl, ⟨nd, rfl⟩⟩; obtain ⟨Ao11, co11, eo11⟩ := Kd.R_slice HO_4.out; subst eo11) | (go_at_call 86; (with_reducible refine (spec_l1Has.calls k1 _ _ x4_1 (wrap64 (-(rd l0 x12_1))) t158 _ ?side1 ?side2 A10.out).mono ?_); (case side1 => exact cm_ (Kd.R_reads' HO_4.out).2.2); (case side2 => exact (Kd.R_reads' HO_4.out).2.1); rintro e w' ⟨rfl, ⟨nd, rfl⟩⟩))
          go_meet
          case rel => exact ⟨_, (t158), y53_, H', ⟨by have := HK1.out; first | omega | exact Nat.le_refl _⟩, ⟨rq_ HO_4.out⟩, ⟨bq_⟩⟩
         ·replace c9 := Bool.eq_false_iff.mpr c9
          subst c9
          have H1 : (spec_CleanClause.j1 k1 x4_1 (rd l0 x12_1) l0 (l0.length : Int) x12_1 true) = some (r1, r2) := by rw [if_neg (show ¬ (false = true) by decide)] at H; exact H
          clear H
          have H := H1
          clear H1
          have H' := am_ H
          clear H
          go_wp2_with (first | (go_at_call 69; (with_reducible refine (spec_l1In.calls (rd l0 x12_1) (-12) 12 false _ A8.out).mono ?_); rintro e w' ⟨rfl, ⟨nd, rfl⟩⟩))
          go_meet
          case rel => exact ⟨_, (true), y53_, H', ⟨by have := HK1.out; first | omega | exact Nat.le_refl _⟩, ⟨rq_ HO_4.out⟩, ⟨bq_⟩⟩
       case rest =>
        clear HC6
        try clear p1
        try clear q1
        try clear hx1
        try clear c2
        try clear c2b0
        try clear c2b1
        try clear p2
        try clear c3
        try clear c3b0
        try clear c4
        try clear c4b0
        try clear c5
        try clear c5b0
        try clear p6
        try clear c7
        try clear c7b0
        try clear c7b1
        try clear c9
        try clear hx156_0
        try clear p156
        try clear p2
        try clear q156
        obtain ⟨kq, x28_5, rfl, HA, HJ5, HO_4, HB⟩ := hcut
        cases kq with
        | zero => exact absurd HA.out (by simp [spec_CleanClause.j1])
        | succ kj5 =>
         have H := HA.out
         clear HA
         simp only [spec_CleanClause.j1] at H
         by_cases c12 : x28_5 = true
         ·subst c12
          have H1 : (some (([] : List Int), false)) = some (r1, r2) := by rw [if_pos rfl] at H; exact H
          clear H
          have H := H1
          clear H1
          simp only [Option.some.injEq, Prod.mk.injEq] at H
          obtain ⟨rfl, rfl⟩ := H
          go_wp2
          go_ret2
          exact ⟨_, by first | rfl | (simp [errW_none, errW_some] <;> rfl) | (simp [*, errW_none, errW_some] <;> rfl), by first | exact Kd.R_nil _ _ _ _ _ | exact Kd.N_nil _ _ _ _ _ | exact Kd.V_nil _ _ _ _ _ | exact Kd.Q_nil _ _ _ _ _ | exact Kd.S_nil _ _ _ _ _, bq_⟩
         ·replace c12 := Bool.eq_false_iff.mpr c12
          subst c12
          have H1 : ((spec_l1Has.f kj5 x4_1 (rd l0 x12_1)).bind fun t159 => (if t159 = true then (spec_CleanClause.l0 kj5 x4_1 l0 (l0.length : Int) (wrap64 (x12_1 + 1))) else (if x4_1.length < 17592186044416 then (spec_CleanClause.l0 kj5 (x4_1 ++ [(rd l0 x12_1)]) l0 (l0.length : Int) (wrap64 (x12_1 + 1))) else (none)))) = some (r1, r2) := by rw [if_neg (show ¬ (false = true) by decide)] at H; exact H
          clear H
          have H := H1
          clear H1
          replace H := Option.bind_eq_some_iff.mp H
          obtain ⟨t159, A130, H⟩ := H
          replace H : (if t159 = true then (spec_CleanClause.l0 kj5 x4_1 l0 (l0.length : Int) (wrap64 (x12_1 + 1))) else (if x4_1.length < 17592186044416 then (spec_CleanClause.l0 kj5 (x4_1 ++ [(rd l0 x12_1)]) l0 (l0.length : Int) (wrap64 (x12_1 + 1))) else (none))) = some (r1, r2) := H
          have A13 := am_ A130
          clear A130
          by_cases c14 : t159 = true
          ·subst c14
           have H1 : (spec_CleanClause.l0 kj5 x4_1 l0 (l0.length : Int) (wrap64 (x12_1 + 1))) = some (r1, r2) := by rw [if_pos rfl] at H; exact H
           clear H
           have H := H1
           clear H1
           have H' := am_ H
           clear H
           obtain ⟨Ao15, co15, eo15⟩ := Kd.R_slice HO_4.out
           subst eo15
           go_wp2_with (first | ((with_reducible refine gl_ 86 rfl ?_); refine goesM_ (some 31) Try.func86 #[.slice Ao15 x4_1.length co15, .int .i64 (rd l0 x12_1)] ?_; (with_reducible refine (spec_l1Has.calls kj5 _ _ x4_1 (rd l0 x12_1) true _ ?side1 ?side2 A13.out).mono ?_); (case side1 => exact cm_ (Kd.R_reads' HO_4.out).2.2); (case side2 => exact (Kd.R_reads' HO_4.out).2.1); rintro e w' ⟨rfl, ⟨nd, rfl⟩⟩; refine ⟨_, rfl, ?_⟩))
           go_roundg kj5
           case measure => have := HK1.out; have := HJ5.out; omega
           case rel => exact ⟨(x4_1), (wrap64 (x12_1 + 1)), y53_, H', ⟨by have := HK1.out; have := HJ5.out; omega⟩, ⟨rq_ HO_4.out⟩, ⟨bq_⟩⟩
          ·replace c14 := Bool.eq_false_iff.mpr c14
           subst c14
           have H1 : (if x4_1.length < 17592186044416 then (spec_CleanClause.l0 kj5 (x4_1 ++ [(rd l0 x12_1)]) l0 (l0.length : Int) (wrap64 (x12_1 + 1))) else (none)) = some (r1, r2) := by rw [if_neg (show ¬ (false = true) by decide)] at H; exact H
           clear H
           have H := H1
           clear H1
           by_cases c16 : x4_1.length < 17592186044416
           ·rw [if_pos c16] at H
            have LMc16 := am_ c16
            clear c16
            obtain ⟨y160, hy160⟩ : ∃ y_ : List Int, y_ = (x4_1 ++ [(rd l0 x12_1)]) := ⟨_, rfl⟩
            replace H : (spec_CleanClause.l0 kj5 y160 l0 (l0.length : Int) (wrap64 (x12_1 + 1))) = some (r1, r2) := by first | (rw [hy160]; with_reducible exact H) | (have H2_ := (Option.bind_some _ _).symm.trans H; rw [hy160]; with_reducible exact H2_) | (have H2_ := (Option.bind_some _ _).symm.trans H; with_reducible exact H2_) | with_reducible exact H | (rw [hy160]; exact H) | exact H
            have Ny160 := am_ hy160
            clear hy160
            have H' := am_ H
            clear H
            obtain ⟨Ao17, co17, eo17⟩ := Kd.R_slice HO_4.out
            subst eo17
            go_wp2_with (first | ((with_reducible refine gl_ 86 rfl ?_); refine goesM_ (some 31) Try.func86 #[.slice Ao17 x4_1.length co17, .int .i64 (rd l0 x12_1)] ?_; (with_reducible refine (spec_l1Has.calls kj5 _ _ x4_1 (rd l0 x12_1) false _ ?side1 ?side2 A13.out).mono ?_); (case side1 => exact cm_ (Kd.R_reads' HO_4.out).2.2); (case side2 => exact (Kd.R_reads' HO_4.out).2.1); rintro e w' ⟨rfl, ⟨nd, rfl⟩⟩; refine ⟨_, rfl, ?_⟩) | ((with_reducible refine gate_builtin (b := .append) (xs := #[.tmp 33, .tmp 35]) rfl ?_); at_builtin; refine Kd.R_append (Kd.int .i64) (w0 := w) w.heap.size rfl (.tmp 33) (.tmp 35) 43 3 (.int .i64 0) 8 rfl Try.underlying43 info3 rfl (by decide) (by omega) (.slice Ao17 x4_1.length co17) x4_1 (rd l0 x12_1) [.int .i64 (rd l0 x12_1)] (fun _ => True) (fun _ => False) rfl rfl ?aP (fun _ hk => hk.elim) ?aF ?aO ?aB ?aS ?aL ?_; (case aP => exact rfl); (case aB => exact (bq_)); (case aF => exact (fun _ _ => trivial)); (case aO => exact (rq_ HO_4.out)); (case aS => exact (below_size (bq_))); (case aL => have := LMc16.out; omega); intro v161 w18 ho hb hg hat; rw [← Ny160.out] at ho; replace HB := am_ (hb); have HO162 := am_ (ho); clear HO_4; clear ho hb hg hat))
            go_roundg kj5
            case measure => have := HK1.out; have := HJ5.out; omega
            case rel => exact ⟨(y160), (wrap64 (x12_1 + 1)), y53_, H', ⟨by have := HK1.out; have := HJ5.out; omega⟩, ⟨rq_ HO162.out⟩, ⟨bq_⟩⟩
           ·rw [if_neg c16] at H
            exact absurd H (by simp)
      ·rw [if_neg c5] at H
       exact absurd H (by simp)
     ·rw [if_neg c4] at H
      exact absurd H (by simp)
    ·rw [if_neg c3] at H
     have c3b0 : decide (x12_1 < (l0.length : Int)) = false := decide_eq_false c3
     clear c3
     simp only [Option.some.injEq, Prod.mk.injEq] at H
     obtain ⟨rfl, rfl⟩ := H
     go_wp2
     go_ret2
     exact ⟨_, by first | rfl | (simp [errW_none, errW_some] <;> rfl) | (simp [*, errW_none, errW_some] <;> rfl), rq_ HO_4.out, bq_⟩
def spec_l8Clauses.l0 : Nat → List (List Int) → List (List Int) → Int → Int → Option ((List (List Int)))
 | 0, _, _, _, _ => none
 | k + 1, x5, x13, x14, x15 => if x15 < x14 then (if 0 ≤ x15 then (if x15 < (x13.length : Int) then ((spec_CleanClause.f k (rd_L2 x13 x15)).bind fun bt168 => (if bt168.2 = true then (if x5.length < 5864062014805 then (spec_l8Clauses.l0 k (x5 ++ [bt168.1]) x13 x14 (wrap64 (x15 + 1))) else (none)) else (spec_l8Clauses.l0 k x5 x13 x14 (wrap64 (x15 + 1))))) else (none)) else (none)) else (some x5)
def spec_l8Clauses.f (k : Nat) (a0_0 : Int) (a0_1 : Int) (a0_2 : Int) (a1 : Int) : Option ((List (List Int))) := (spec_l8Raw.f a0_0 a0_1 a0_2 (wrap64 (a1 + 1))).bind fun t164 => (spec_l8Clauses.l0 k ([] : List (List Int)) t164 (t164.length : Int) 0)
set_option maxHeartbeats 8000000 in
set_option maxRecDepth 100000 in
theorem spec_l8Clauses.calls (k : Nat) (a0_0 : Int) (a0_1 : Int) (a0_2 : Int) (a1 : Int) (r : List (List Int)) (w : World) (h : spec_l8Clauses.f k a0_0 a0_1 a0_2 a1 = some r) :
  Calls Try.prog 42 #[.agg #[.int .i64 a0_0, .int .i64 a0_1, .int .i64 a0_2], .int .i64 a1] w fun e w' => ∃ v0_ : Value, e = .returned (v0_) ∧ Kd.N (Kd.slice 3 (Kd.int .i64)) 43 w' w.heap.size (fun k_ => (w.heap.size ≤ k_)) v0_ r ∧ Below w.heap.size w w' := by
 have hu69 := Try.underlying69
 have HB := am_ (Below.refl w.heap.size w)
 have H : ((spec_l8Raw.f a0_0 a0_1 a0_2 (wrap64 (a1 + 1))).bind fun t164 => (spec_l8Clauses.l0 k ([] : List (List Int)) t164 (t164.length : Int) 0)) = some r := h
 clear h
 replace H := Option.bind_eq_some_iff.mp H
 obtain ⟨t164, A30, H⟩ := H
 replace H : (spec_l8Clauses.l0 k ([] : List (List Int)) t164 (t164.length : Int) 0) = some r := H
 have A3 := am_ A30
 clear A30
 have H' := am_ H
 clear H
 go_enter Try.func42, Try.ntmps42
 go_wp2_with (first | ((with_reducible refine gate_dst (N := 2) rfl ?_); refine boxq_ (N := 2) (cs := #[.int .i64 a0_0, .int .i64 a0_1, .int .i64 a0_2]) (t := 69) ?_; intro gb163 hg w4 hbox hb; have BK163 := am_ (hbox); have GW163 := gz_ hg; have GE163 := gz_ hg; replace HB := bs_ hb; clear hb hbox hg; have hcz5_0 := cq_ BK163.out 0 (.int .i64 a0_0); have hcz5_1 := cq_ BK163.out 1 (.int .i64 a0_1); have hcz5_2 := cq_ BK163.out 2 (.int .i64 a0_2); have hfz5_0 := blk_frozen BK163.out 0; have hfz5_1 := blk_frozen BK163.out 1; have hfz5_2 := blk_frozen BK163.out 2) | ((with_reducible refine gl_ 70 rfl ?_); refine goesM_ (some 13) Try.func70 #[.agg #[.int .i64 a0_0, .int .i64 a0_1, .int .i64 a0_2], .int .i64 (wrap64 (a1 + 1))] ?_; (with_reducible refine (spec_l8Raw.calls a0_0 a0_1 a0_2 (wrap64 (a1 + 1)) t164 _ A3.out).mono ?_); rintro e w6 ⟨v165, rfl, ho0, hb⟩; refine ⟨_, rfl, ?_⟩; have HO166 := am_ (Kd.N_lower (Kd.N_mono (ok' := fun k_ => (w.heap.size ≤ k_) ∧ k_ ≠ gb163) ho0 (fun k_ hk_ => ⟨(Nat.le_trans (below_size (bq_)) hk_), (Kd.freshB (g := gb163) (o := .cells #[.int .i64 a0_0, .int .i64 a0_1, .int .i64 a0_2] 69 (0, 0)) (bk_ BK163.out) k_ hk_)⟩)) (below_size (bq_))); replace BK163 := bb_ BK163 hb; replace HB := bs_ hb; (try clear hb); (try clear ho0); obtain ⟨Ao7, co7, eo7⟩ := Kd.N_slice HO166.out; subst eo7))
 go_loopg [5, 15] k (fun kq v5 v15 w' => ∃ (x5_1 : List (List Int)) (x15_1 : Int), v15 = .int .i64 x15_1 ∧ Aside0 (spec_l8Clauses.l0 kq x5_1 t164 (t164.length : Int) x15_1 = some r) ∧ Aside0 (kq ≤ k) ∧ Aside0 (Kd.N (Kd.slice 3 (Kd.int .i64)) 43 w' w.heap.size (fun k_ => (w.heap.size ≤ k_) ∧ some k_ ≠ ((.slice Ao7 t164.length co7) : Value).ownBlock ∧ k_ ≠ gb163) v5 x5_1) ∧ Aside0 (Kd.N (Kd.slice 3 (Kd.int .i64)) 43 w' w.heap.size (fun k_ => (w.heap.size ≤ k_) ∧ some k_ ≠ (v5 : Value).ownBlock ∧ k_ ≠ gb163) (.slice Ao7 t164.length co7) t164) ∧ Aside0 (w'.heap[gb163]? = some (.cells #[.int .i64 a0_0, .int .i64 a0_1, .int .i64 a0_2] 69 (0, 0))) ∧ Aside0 (Below w.heap.size w w'))
 case atStart => exact ⟨(([] : List (List Int))), (0), y53_, H', ⟨Nat.le_refl _⟩, ⟨by first | exact Kd.S_nil _ _ _ _ _ | exact Kd.N_nil _ _ _ _ _ | exact Kd.V_nil _ _ _ _ _ | exact Kd.Q_nil _ _ _ _ _ | exact Kd.R_nil _ _ _ _ _⟩, ⟨by (with_reducible repeat (first | apply Kd.N_alloc | apply Kd.N_drewN | apply Kd.N_drew)); exact Kd.N_mono HO166.out (fun _ hk => ⟨hk.1, ⟨(by simp [Value.ownBlock]), hk.2⟩⟩)⟩, ⟨bk_ BK163.out⟩, ⟨bq_⟩⟩
 case round =>
  clear H'
  try clear p2
  try clear c4
  try clear p6
  try clear c7
  try clear hcz5_0
  try clear hcz5_1
  try clear hcz5_2
  try clear hfz5_0
  try clear hfz5_1
  try clear hfz5_2
  obtain ⟨x5_1, x15_1, rfl, HA, HK1, HO_5, HO_13, BK163, HB⟩ := hrel
  cases gk with
  | zero => exact absurd HA.out (by simp [spec_l8Clauses.l0])
  | succ k1 =>
   have H := HA.out
   clear HA
   simp only [spec_l8Clauses.l0] at H
   by_cases c8 : x15_1 < (t164.length : Int)
   ·rw [if_pos c8] at H
    have c8b0 : decide (x15_1 < (t164.length : Int)) = true := decide_eq_true c8
    clear c8
    by_cases c9 : 0 ≤ x15_1
    ·rw [if_pos c9] at H
     have c9b0 : decide (0 ≤ x15_1) = true := decide_eq_true c9
     clear c9
     by_cases c10 : x15_1 < (t164.length : Int)
     ·rw [if_pos c10] at H
      have c10b0 : decide (x15_1 < (t164.length : Int)) = true := decide_eq_true c10
      clear c10
      replace H := Option.bind_eq_some_iff.mp H
      obtain ⟨⟨t168, t169⟩, A110, H⟩ := H
      replace H : (if t169 = true then (if x5_1.length < 5864062014805 then (spec_l8Clauses.l0 k1 (x5_1 ++ [t168]) t164 (t164.length : Int) (wrap64 (x15_1 + 1))) else (none)) else (spec_l8Clauses.l0 k1 x5_1 t164 (t164.length : Int) (wrap64 (x15_1 + 1)))) = some r := H
      have A11 := am_ A110
      clear A110
      by_cases c12 : t169 = true
      ·subst c12
       have H1 : (if x5_1.length < 5864062014805 then (spec_l8Clauses.l0 k1 (x5_1 ++ [t168]) t164 (t164.length : Int) (wrap64 (x15_1 + 1))) else (none)) = some r := by rw [if_pos rfl] at H; exact H
       clear H
       have H := H1
       clear H1
       by_cases c13 : x5_1.length < 5864062014805
       ·rw [if_pos c13] at H
        have LMc13 := am_ c13
        clear c13
        obtain ⟨y172, hy172⟩ : ∃ y_ : List (List Int), y_ = (x5_1 ++ [t168]) := ⟨_, rfl⟩
        replace H : (spec_l8Clauses.l0 k1 y172 t164 (t164.length : Int) (wrap64 (x15_1 + 1))) = some r := by first | (rw [hy172]; with_reducible exact H) | (have H2_ := (Option.bind_some _ _).symm.trans H; rw [hy172]; with_reducible exact H2_) | (have H2_ := (Option.bind_some _ _).symm.trans H; with_reducible exact H2_) | with_reducible exact H | (rw [hy172]; exact H) | exact H
        have Ny172 := am_ hy172
        clear hy172
        have H' := am_ H
        clear H
        have p167 : 0 ≤ (x15_1 : Int) := od_
        have q167 : x15_1 < (t164.length : Int) := od_
        obtain ⟨ad167, A167_0, c167_0, e167, hx167_0, hl167_0, hi167_0⟩ := at_L2 (Kd.N_reads' HO_13.out).2.2 x15_1 p167 q167
        cases e167
        obtain ⟨ce167, hce167, hMe167, hcc167⟩ := Kd.N_get HO_13.out [] x15_1 p167 (by first | exact q167 | exact od_ | (have e_ := (Kd.N_reads' HO_13.out).1; omega))
        obtain ⟨ua167_0, uc167_0, rfl, ul167_0, ge167_0⟩ := Kd.FK_slice_open hMe167
        have hv167_0 := hcc167 0 _ rfl
        rw [Nat.add_zero, show ((Kd.slice 3 (Kd.int .i64))).sz = 1 from rfl, Nat.mul_one] at hv167_0
        replace hv167_0 := Option.some.inj (hv167_0.symm.trans hx167_0)
        injection hv167_0 with hva_ hvn_ hvc_
        rw [hva_] at ge167_0
        rw [hvc_] at ul167_0
        have HL167_0 := am_ (show Kd.V (Kd.int .i64) 3 _ w.heap.size _ _ (rd_L2 t164 x15_1) from Kd.V_mk ul167_0 ge167_0)
        clear hva_ hvn_ hvc_ ge167_0 ul167_0 hcc167 hce167
        have HR167_0 := am_ hi167_0
        have HC167_0 := am_ hl167_0
        clear hi167_0 hl167_0
        replace p167 := eq_true p167
        replace q167 := eq_true q167
        go_wp2_with (first | ((with_reducible refine gl_ 71 rfl ?_); refine goesM_ (some 21) Try.func71 #[.slice A167_0 (rd_L2 t164 x15_1).length c167_0] ?_; (with_reducible refine (spec_CleanClause.calls k1 _ _ (rd_L2 t164 x15_1) t168 true _ ?side1 ?side2 A11.out).mono ?_); (case side1 => repeat (first | exact y5_ | (with_reducible refine Kd.C_alloc ?_ _) | (with_reducible refine Kd.C_drewN ?_ _) | (with_reducible refine Kd.C_drew ?_))); (case side2 => exact HC167_0.out); rintro e w14 ⟨v170, rfl, ho0, hb⟩; refine ⟨_, rfl, ?_⟩; replace HO_5 := am_ (Kd.N_elder' (by (with_reducible repeat (first | apply Kd.N_alloc | apply Kd.N_drewN | apply Kd.N_drew)); exact HO_5.out) (Kd.R_base ho0) hb); replace HO_13 := am_ (Kd.N_elder' y45_ (Kd.R_base ho0) hb); replace HL167_0 := am_ (Kd.V_elder' (by (with_reducible repeat (first | apply Kd.V_alloc | apply Kd.V_drewN | apply Kd.V_drew)); exact HL167_0.out) (Kd.R_base ho0) hb); have HO171 := am_ (Kd.R_lower (Kd.R_newM (M := fun k_ => (w.heap.size ≤ k_)) ho0 (below_size (bq_)) (fun k_ h_ => h_)) (below_size (bq_))); replace BK163 := bb_ BK163 hb; replace HR167_0 := am_ (Kd.C_below y5_ hb); replace HB := bs_ hb; (try clear hb); (try clear hk); (try clear ho0); obtain ⟨Ao16, co16, eo16⟩ := Kd.R_slice HO171.out; subst eo16) | ((with_reducible refine gate_builtin (b := .append) (xs := #[.tmp 25, .tmp 27]) rfl ?_); at_builtin; refine Kd.N_append (Kd.slice 3 (Kd.int .i64)) (w0 := w) w.heap.size rfl (.tmp 25) (.tmp 27) 24 43 (.slice none 0 0) 24 rfl Try.underlying24 info43 rfl (by decide) (by omega) u5 x5_1 t168 [.slice Ao16 t168.length co16] (fun k_ => (w.heap.size ≤ k_) ∧ some k_ ≠ (.slice (some ad167) t164.length co7 : Value).ownBlock ∧ k_ ≠ gb163) (fun k_ => ((fun k_ => (w.heap.size ≤ k_) ∧ some k_ ≠ (.slice (some ad167) t164.length co7 : Value).ownBlock ∧ k_ ≠ gb163)) k_ ∧ some k_ ≠ (u5 : Value).ownBlock) rfl rfl ?aP (fun _ hk => hk) ?aF ?aO ?aB ?aS ?aL ?_; (case aP => exact (Kd.FK_slice_mk (Kd.R_reads' (Kd.R_mono (ok' := (fun k_ => ((fun k_ => (w.heap.size ≤ k_) ∧ some k_ ≠ (.slice (some ad167) t164.length co7 : Value).ownBlock ∧ k_ ≠ gb163)) k_ ∧ some k_ ≠ (u5 : Value).ownBlock)) (Kd.R_types (Kd.R_apart' (Kd.R_apart' (HO171.out) (Kd.N_typed HO_13.out) (by decide)) (Kd.N_typed HO_5.out) (by decide)) BK163.out (by decide)) (fun k_ hk => ⟨⟨hk.1.1.1.1, ⟨hk.1.1.2, hk.2⟩⟩, hk.1.2⟩))).2.1 (Kd.R_F (Kd.R_mono (ok' := (fun k_ => ((fun k_ => (w.heap.size ≤ k_) ∧ some k_ ≠ (.slice (some ad167) t164.length co7 : Value).ownBlock ∧ k_ ≠ gb163)) k_ ∧ some k_ ≠ (u5 : Value).ownBlock)) (Kd.R_types (Kd.R_apart' (Kd.R_apart' (HO171.out) (Kd.N_typed HO_13.out) (by decide)) (Kd.N_typed HO_5.out) (by decide)) BK163.out (by decide)) (fun k_ hk => ⟨⟨hk.1.1.1.1, ⟨hk.1.1.2, hk.2⟩⟩, hk.1.2⟩))))); (case aB => exact (bq_)); (case aF => exact (fun k_ hk => ⟨(Nat.le_trans (below_size (bq_)) hk), Kd.fresh' (Kd.N_lt y45_) k_ hk, Kd.freshB (g := gb163) (o := .cells #[.int .i64 a0_0, .int .i64 a0_1, .int .i64 a0_2] 69 (0, 0)) (bk_ BK163.out) k_ hk⟩)); (case aO => exact (by (with_reducible repeat (first | apply Kd.N_alloc | apply Kd.N_drewN | apply Kd.N_drew)); exact Kd.N_mono HO_5.out (fun _ hk => ⟨hk.1.1, ⟨hk.1.2.1, hk.1.2.2⟩⟩))); (case aS => exact (below_size (bq_))); (case aL => have := LMc13.out; omega); intro v173 w15 ho hb hg hat; rw [← Ny172.out] at ho; replace HO_13 := am_ (Kd.N_afterv (ok := (fun k_ => (w.heap.size ≤ k_) ∧ some k_ ≠ (.slice Ao16 t168.length co16 : Value).ownBlock ∧ k_ ≠ gb163)) (by (with_reducible repeat (first | apply Kd.N_alloc | apply Kd.N_drewN | apply Kd.N_drew)); exact Kd.N_mono HO_13.out (fun _ hk => ⟨⟨hk.1.1, ⟨hk.2, hk.1.2.2⟩⟩, hk.1.2.1⟩)) hg hat); replace BK163 := am_ (blk_grown (bk_ BK163.out) hg (Kd.N_ne HO_5.out BK163.out (by decide))); replace HL167_0 := am_ (Kd.V_afterv (ok := (fun k_ => (w.heap.size ≤ k_) ∧ some k_ ≠ (.slice (some ad167) t164.length co7 : Value).ownBlock ∧ some k_ ≠ (.slice Ao16 t168.length co16 : Value).ownBlock ∧ k_ ≠ gb163)) (by (with_reducible repeat (first | apply Kd.V_alloc | apply Kd.V_drewN | apply Kd.V_drew)); exact Kd.V_mono HL167_0.out (fun _ hk => ⟨⟨hk.1.1.1, ⟨hk.1.2, ⟨hk.2, hk.1.1.2.2⟩⟩⟩, hk.1.1.2.1⟩)) hg hat); replace HB := am_ (hb); have HO174 := am_ (ho); clear HO_5 HO171; clear ho hb hg hat))
        go_roundg k1
        case measure => have := HK1.out; omega
        case rel => exact ⟨(y172), (wrap64 (x15_1 + 1)), y53_, H', ⟨by have := HK1.out; omega⟩, ⟨by (with_reducible repeat (first | apply Kd.N_alloc | apply Kd.N_drewN | apply Kd.N_drew)); exact HO174.out⟩, ⟨by (with_reducible repeat (first | apply Kd.N_alloc | apply Kd.N_drewN | apply Kd.N_drew)); exact Kd.N_mono HO_13.out (fun _ hk => ⟨hk.1.1, ⟨hk.2, hk.1.2.2⟩⟩)⟩, ⟨bk_ BK163.out⟩, ⟨bq_⟩⟩
       ·rw [if_neg c13] at H
        exact absurd H (by simp)
      ·replace c12 := Bool.eq_false_iff.mpr c12
       subst c12
       have H1 : (spec_l8Clauses.l0 k1 x5_1 t164 (t164.length : Int) (wrap64 (x15_1 + 1))) = some r := by rw [if_neg (show ¬ (false = true) by decide)] at H; exact H
       clear H
       have H := H1
       clear H1
       have H' := am_ H
       clear H
       have p167 : 0 ≤ (x15_1 : Int) := od_
       have q167 : x15_1 < (t164.length : Int) := od_
       obtain ⟨ad167, A167_0, c167_0, e167, hx167_0, hl167_0, hi167_0⟩ := at_L2 (Kd.N_reads' HO_13.out).2.2 x15_1 p167 q167
       cases e167
       obtain ⟨ce167, hce167, hMe167, hcc167⟩ := Kd.N_get HO_13.out [] x15_1 p167 (by first | exact q167 | exact od_ | (have e_ := (Kd.N_reads' HO_13.out).1; omega))
       obtain ⟨ua167_0, uc167_0, rfl, ul167_0, ge167_0⟩ := Kd.FK_slice_open hMe167
       have hv167_0 := hcc167 0 _ rfl
       rw [Nat.add_zero, show ((Kd.slice 3 (Kd.int .i64))).sz = 1 from rfl, Nat.mul_one] at hv167_0
       replace hv167_0 := Option.some.inj (hv167_0.symm.trans hx167_0)
       injection hv167_0 with hva_ hvn_ hvc_
       rw [hva_] at ge167_0
       rw [hvc_] at ul167_0
       have HL167_0 := am_ (show Kd.V (Kd.int .i64) 3 _ w.heap.size _ _ (rd_L2 t164 x15_1) from Kd.V_mk ul167_0 ge167_0)
       clear hva_ hvn_ hvc_ ge167_0 ul167_0 hcc167 hce167
       have HR167_0 := am_ hi167_0
       have HC167_0 := am_ hl167_0
       clear hi167_0 hl167_0
       replace p167 := eq_true p167
       replace q167 := eq_true q167
       go_wp2_with (first | ((with_reducible refine gl_ 71 rfl ?_); refine goesM_ (some 21) Try.func71 #[.slice A167_0 (rd_L2 t164 x15_1).length c167_0] ?_; (with_reducible refine (spec_CleanClause.calls k1 _ _ (rd_L2 t164 x15_1) t168 false _ ?side1 ?side2 A11.out).mono ?_); (case side1 => repeat (first | exact y5_ | (with_reducible refine Kd.C_alloc ?_ _) | (with_reducible refine Kd.C_drewN ?_ _) | (with_reducible refine Kd.C_drew ?_))); (case side2 => exact HC167_0.out); rintro e w17 ⟨v170, rfl, ho0, hb⟩; refine ⟨_, rfl, ?_⟩; replace HO_5 := am_ (Kd.N_elder' (by (with_reducible repeat (first | apply Kd.N_alloc | apply Kd.N_drewN | apply Kd.N_drew)); exact HO_5.out) (Kd.R_base ho0) hb); replace HO_13 := am_ (Kd.N_elder' y45_ (Kd.R_base ho0) hb); replace HL167_0 := am_ (Kd.V_elder' (by (with_reducible repeat (first | apply Kd.V_alloc | apply Kd.V_drewN | apply Kd.V_drew)); exact HL167_0.out) (Kd.R_base ho0) hb); have HO171 := am_ (Kd.R_lower (Kd.R_newM (M := fun k_ => (w.heap.size ≤ k_)) ho0 (below_size (bq_)) (fun k_ h_ => h_)) (below_size (bq_))); replace BK163 := bb_ BK163 hb; replace HR167_0 := am_ (Kd.C_below y5_ hb); replace HB := bs_ hb; (try clear hb); (try clear ho0)))
       go_roundg k1
       case measure => have := HK1.out; omega
       case rel => exact ⟨(x5_1), (wrap64 (x15_1 + 1)), y53_, H', ⟨by have := HK1.out; omega⟩, ⟨by (with_reducible repeat (first | apply Kd.N_alloc | apply Kd.N_drewN | apply Kd.N_drew)); exact Kd.N_mono HO_5.out (fun _ hk => ⟨hk.1.1, ⟨hk.1.2.1, hk.1.2.2⟩⟩)⟩, ⟨by (with_reducible repeat (first | apply Kd.N_alloc | apply Kd.N_drewN | apply Kd.N_drew)); exact Kd.N_mono HO_13.out (fun _ hk => ⟨hk.1.1, ⟨hk.1.2.1, hk.1.2.2⟩⟩)⟩, ⟨bk_ BK163.out⟩, ⟨bq_⟩⟩
     ·rw [if_neg c10] at H
      exact absurd H (by simp)
    ·rw [if_neg c9] at H
     exact absurd H (by simp)
   ·rw [if_neg c8] at H
    have c8b0 : decide (x15_1 < (t164.length : Int)) = false := decide_eq_false c8
    clear c8
    obtain rfl := Option.some.inj H
    go_wp2
    go_ret
    exact ⟨_, by first | rfl | (simp [errW_none, errW_some] <;> rfl) | (simp [*, errW_none, errW_some] <;> rfl), by (with_reducible repeat (first | apply Kd.N_alloc | apply Kd.N_drewN | apply Kd.N_drew)); exact Kd.N_mono HO_5.out (fun _ hk => hk.1), bq_⟩
def spec_GateClauses.f (k : Nat) (l0 : List (S69)) (a1 : Int) : Option ((List (List Int)) × Bool) := (spec_GoodGates.f k l0).bind fun t175 => (if t175 = true then (if a1 < 0 then (some (([] : List (List Int)), false)) else (if a1 ≥ (l0.length : Int) then (some (([] : List (List Int)), false)) else (if 0 ≤ a1 then (if a1 < (l0.length : Int) then ((spec_l8Clauses.f k ((rd_T69 l0 a1).f0) ((rd_T69 l0 a1).f1) ((rd_T69 l0 a1).f2) a1).bind fun t177 => (some (t177, true))) else (none)) else (none)))) else (some (([] : List (List Int)), false)))
set_option maxHeartbeats 8000000 in
set_option maxRecDepth 100000 in
theorem spec_GateClauses.calls (k : Nat) (A0 : Option Addr) (c0 : Nat) (l0 : List (S69)) (a1 : Int) (r1 : List (List Int)) (r2 : Bool) (w : World) (hr0 : Kd.C k69 w A0 l0.length l0) (hc0 : l0.length ≤ c0) (h : spec_GateClauses.f k l0 a1 = some (r1, r2)) :
  Calls Try.prog 8 #[.slice A0 l0.length c0, .int .i64 a1] w fun e w' => ∃ v0_ : Value, e = .returned (.tuple #[v0_, .bool r2]) ∧ Kd.N (Kd.slice 3 (Kd.int .i64)) 43 w' w.heap.size (fun k_ => (w.heap.size ≤ k_)) v0_ r1 ∧ Below w.heap.size w w' := by
 have hu69 := Try.underlying69
 have HR0 := am_ hr0
 have HC0 := am_ hc0
 clear hr0 hc0
 have HB := am_ (Below.refl w.heap.size w)
 have H : ((spec_GoodGates.f k l0).bind fun t175 => (if t175 = true then (if a1 < 0 then (some (([] : List (List Int)), false)) else (if a1 ≥ (l0.length : Int) then (some (([] : List (List Int)), false)) else (if 0 ≤ a1 then (if a1 < (l0.length : Int) then ((spec_l8Clauses.f k ((rd_T69 l0 a1).f0) ((rd_T69 l0 a1).f1) ((rd_T69 l0 a1).f2) a1).bind fun t177 => (some (t177, true))) else (none)) else (none)))) else (some (([] : List (List Int)), false)))) = some (r1, r2) := h
 clear h
 replace H := Option.bind_eq_some_iff.mp H
 obtain ⟨t175, A30, H⟩ := H
 replace H : (if t175 = true then (if a1 < 0 then (some (([] : List (List Int)), false)) else (if a1 ≥ (l0.length : Int) then (some (([] : List (List Int)), false)) else (if 0 ≤ a1 then (if a1 < (l0.length : Int) then ((spec_l8Clauses.f k ((rd_T69 l0 a1).f0) ((rd_T69 l0 a1).f1) ((rd_T69 l0 a1).f2) a1).bind fun t177 => (some (t177, true))) else (none)) else (none)))) else (some (([] : List (List Int)), false))) = some (r1, r2) := H
 have A3 := am_ A30
 clear A30
 by_cases c4 : t175 = true
 ·subst c4
  have H1 : (if a1 < 0 then (some (([] : List (List Int)), false)) else (if a1 ≥ (l0.length : Int) then (some (([] : List (List Int)), false)) else (if 0 ≤ a1 then (if a1 < (l0.length : Int) then ((spec_l8Clauses.f k ((rd_T69 l0 a1).f0) ((rd_T69 l0 a1).f1) ((rd_T69 l0 a1).f2) a1).bind fun t177 => (some (t177, true))) else (none)) else (none)))) = some (r1, r2) := by rw [if_pos rfl] at H; exact H
  clear H
  have H := H1
  clear H1
  by_cases c5 : a1 < 0
  ·rw [if_pos c5] at H
   have c5b0 : decide (a1 < 0) = true := decide_eq_true c5
   clear c5
   simp only [Option.some.injEq, Prod.mk.injEq] at H
   obtain ⟨rfl, rfl⟩ := H
   go_enter Try.func8, Try.ntmps8
   go_wp2_with (first | ((with_reducible refine gl_ 41 rfl ?_); refine goesM_ (some 7) Try.func41 #[.slice A0 l0.length c0] ?_; (with_reducible refine (spec_GoodGates.calls k _ _ l0 true _ ?side1 ?side2 A3.out).mono ?_); (case side1 => exact cm_ HR0.out); (case side2 => exact HC0.out); rintro e w6 ⟨rfl, hb⟩; refine ⟨_, rfl, ?_⟩; replace HB := bs_ hb; (try clear hb)))
   go_ret2
   exact ⟨_, by first | rfl | (simp [errW_none, errW_some] <;> rfl) | (simp [*, errW_none, errW_some] <;> rfl), by first | exact Kd.S_nil _ _ _ _ _ | exact Kd.N_nil _ _ _ _ _ | exact Kd.V_nil _ _ _ _ _ | exact Kd.Q_nil _ _ _ _ _ | exact Kd.R_nil _ _ _ _ _, bq_⟩
  ·rw [if_neg c5] at H
   have c5b0 : decide (a1 < 0) = false := decide_eq_false c5
   clear c5
   by_cases c7 : a1 ≥ (l0.length : Int)
   ·rw [if_pos c7] at H
    have c7b0 : decide ((l0.length : Int) ≤ a1) = true := decide_eq_true c7
    clear c7
    simp only [Option.some.injEq, Prod.mk.injEq] at H
    obtain ⟨rfl, rfl⟩ := H
    go_enter Try.func8, Try.ntmps8
    go_wp2_with (first | ((with_reducible refine gl_ 41 rfl ?_); refine goesM_ (some 7) Try.func41 #[.slice A0 l0.length c0] ?_; (with_reducible refine (spec_GoodGates.calls k _ _ l0 true _ ?side1 ?side2 A3.out).mono ?_); (case side1 => exact cm_ HR0.out); (case side2 => exact HC0.out); rintro e w8 ⟨rfl, hb⟩; refine ⟨_, rfl, ?_⟩; replace HB := bs_ hb; (try clear hb)))
    go_ret2
    exact ⟨_, by first | rfl | (simp [errW_none, errW_some] <;> rfl) | (simp [*, errW_none, errW_some] <;> rfl), by first | exact Kd.S_nil _ _ _ _ _ | exact Kd.N_nil _ _ _ _ _ | exact Kd.V_nil _ _ _ _ _ | exact Kd.Q_nil _ _ _ _ _ | exact Kd.R_nil _ _ _ _ _, bq_⟩
   ·rw [if_neg c7] at H
    have c7b0 : decide ((l0.length : Int) ≤ a1) = false := decide_eq_false c7
    clear c7
    by_cases c9 : 0 ≤ a1
    ·rw [if_pos c9] at H
     have c9b0 : decide (0 ≤ a1) = true := decide_eq_true c9
     clear c9
     by_cases c10 : a1 < (l0.length : Int)
     ·rw [if_pos c10] at H
      have c10b0 : decide (a1 < (l0.length : Int)) = true := decide_eq_true c10
      clear c10
      replace H := Option.bind_eq_some_iff.mp H
      obtain ⟨t177, A110, H⟩ := H
      replace H : (some (t177, true)) = some (r1, r2) := H
      have A11 := am_ A110
      clear A110
      simp only [Option.some.injEq, Prod.mk.injEq] at H
      obtain ⟨rfl, rfl⟩ := H
      go_enter Try.func8, Try.ntmps8
      go_wp2_with (first | ((with_reducible refine gl_ 41 rfl ?_); refine goesM_ (some 7) Try.func41 #[.slice A0 l0.length c0] ?_; (with_reducible refine (spec_GoodGates.calls k _ _ l0 true _ ?side1 ?side2 A3.out).mono ?_); (case side1 => exact cm_ HR0.out); (case side2 => exact HC0.out); rintro e w12 ⟨rfl, hb⟩; refine ⟨_, rfl, ?_⟩; replace HB := bs_ hb; (try clear hb); have p176 : 0 ≤ (a1 : Int) := od_; have q176 : a1 < (l0.length : Int) := od_; obtain ⟨ad176, e176, hx176_0, hx176_1, hx176_2⟩ := at_T69 HR0.out a1 p176 q176; cases e176; replace hx176_0 := (HB.out.cell (World.block_lt_of_cell? w _ hx176_0)).trans hx176_0; replace hx176_1 := (HB.out.cell (World.block_lt_of_cell? w _ hx176_1)).trans hx176_1; replace hx176_2 := (HB.out.cell (World.block_lt_of_cell? w _ hx176_2)).trans hx176_2; replace p176 := eq_true p176; replace q176 := eq_true q176) | ((with_reducible refine gl_ 42 rfl ?_); refine goesM_ (some 24) Try.func42 #[.agg #[.int .i64 ((rd_T69 l0 a1).f0), .int .i64 ((rd_T69 l0 a1).f1), .int .i64 ((rd_T69 l0 a1).f2)], .int .i64 a1] ?_; (with_reducible refine (spec_l8Clauses.calls k ((rd_T69 l0 a1).f0) ((rd_T69 l0 a1).f1) ((rd_T69 l0 a1).f2) a1 t177 _ A11.out).mono ?_); rintro e w13 ⟨v178, rfl, ho0, hb⟩; refine ⟨_, rfl, ?_⟩; have HO179 := am_ (Kd.N_lower (Kd.N_mono (ok' := fun k_ => (w.heap.size ≤ k_)) ho0 (fun k_ hk_ => (Nat.le_trans (below_size (bq_)) hk_))) (below_size (bq_))); replace HB := bs_ hb; (try clear hb); (try clear ho0)))
      go_ret2
      exact ⟨_, by first | rfl | (simp [errW_none, errW_some] <;> rfl) | (simp [*, errW_none, errW_some] <;> rfl), by (with_reducible repeat (first | apply Kd.N_alloc | apply Kd.N_drewN | apply Kd.N_drew)); exact HO179.out, bq_⟩
     ·rw [if_neg c10] at H
      exact absurd H (by simp)
    ·rw [if_neg c9] at H
     exact absurd H (by simp)
 ·replace c4 := Bool.eq_false_iff.mpr c4
  subst c4
  have H1 : (some (([] : List (List Int)), false)) = some (r1, r2) := by rw [if_neg (show ¬ (false = true) by decide)] at H; exact H
  clear H
  have H := H1
  clear H1
  simp only [Option.some.injEq, Prod.mk.injEq] at H
  obtain ⟨rfl, rfl⟩ := H
  go_enter Try.func8, Try.ntmps8
  go_wp2_with (first | ((with_reducible refine gl_ 41 rfl ?_); refine goesM_ (some 7) Try.func41 #[.slice A0 l0.length c0] ?_; (with_reducible refine (spec_GoodGates.calls k _ _ l0 false _ ?side1 ?side2 A3.out).mono ?_); (case side1 => exact cm_ HR0.out); (case side2 => exact HC0.out); rintro e w14 ⟨rfl, hb⟩; refine ⟨_, rfl, ?_⟩; replace HB := bs_ hb; (try clear hb)))
  go_ret2
  exact ⟨_, by first | rfl | (simp [errW_none, errW_some] <;> rfl) | (simp [*, errW_none, errW_some] <;> rfl), by first | exact Kd.S_nil _ _ _ _ _ | exact Kd.N_nil _ _ _ _ _ | exact Kd.V_nil _ _ _ _ _ | exact Kd.Q_nil _ _ _ _ _ | exact Kd.R_nil _ _ _ _ _, bq_⟩
def impl_in.f (a0 : Int) (a1 : Int) (a2 : Int) : Option (Bool) := if a0 ≥ a1 then (some (decide (a0 ≤ a2))) else (some false)
set_option maxHeartbeats 8000000 in
set_option maxRecDepth 100000 in
theorem impl_in.calls (a0 : Int) (a1 : Int) (a2 : Int) (r : Bool) (w : World) (h : impl_in.f a0 a1 a2 = some r) :
  Calls Try.prog 44 #[.int .i64 a0, .int .i64 a1, .int .i64 a2] w fun e w' => e = .returned (.bool r) ∧ Drawn0 w w' := by
 have H : (if a0 ≥ a1 then (some (decide (a0 ≤ a2))) else (some false)) = some r := h
 clear h
 by_cases c4 : a0 ≥ a1
 ·rw [if_pos c4] at H
  have c4b0 : decide (a1 ≤ a0) = true := decide_eq_true c4
  clear c4
  obtain rfl := Option.some.inj H
  go_enter Try.func44, Try.ntmps44
  go_wp2
  go_ret
  exact ⟨by first | rfl | (simp; done) | (simp [*]; done), by repeat (first | exact Drawn0.refl _ | apply Drawn0.step)⟩
 ·rw [if_neg c4] at H
  have c4b0 : decide (a1 ≤ a0) = false := decide_eq_false c4
  clear c4
  obtain rfl := Option.some.inj H
  go_enter Try.func44, Try.ntmps44
  go_wp2
  go_ret
  exact ⟨by first | rfl | (simp; done) | (simp [*]; done), by repeat (first | exact Drawn0.refl _ | apply Drawn0.step)⟩
end Go.Proofs.Ytgahidilhjijiaa.PGG
