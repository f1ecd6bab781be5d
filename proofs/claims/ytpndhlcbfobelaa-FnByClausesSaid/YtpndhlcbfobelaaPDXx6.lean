import Derived.Test.YtpndhlcbfobelaaPDXx0
import Derived.Test.YtpndhlcbfobelaaPDXx5
namespace Go.Proofs.Ytpndhlcbfobelaa.PDX
open Go.RowKit Go.Proofs.YtpndhlcbfobelaaW.PrintWords Go.Proofs.YtpndhlcbfobelaaW.PrintLast Go.Proofs.YtpndhlcbfobelaaW.PrintMore
attribute [local go_sem] max2_int min2_int max_two min_two max_three min_three max_four min_four   -- for this text's walks alone
set_option linter.unusedVariables false
set_option linter.unusedSimpArgs false
mutual
def spec_l7Table.j0 : Nat → Bool → Int → List (S75) → Int → Option (List Bool × Bool)
 | 0, _, _, _, _ => none
 | k + 1, x27, x148000, x148001, x148002 => if x27 = true then (some (([] : List Bool), false)) else (spec_l7Table.l0 k x148001 (x148001.length : Int) 0 x148000 x148001 x148002)
def spec_l7Table.l0 : Nat → List (S75) → Int → Int → Int → List (S75) → Int → Option (List Bool × Bool)
 | 0, _, _, _, _, _, _ => none
 | k + 1, x29, x30, x31, x148000, x148001, x148002 => if x31 < x30 then (if 0 ≤ x31 then (if x31 < (x29.length : Int) then ((spec_l1In.f ((rd_T75 x29 x31).f0) 1 x148000).bind fun t152 => (if t152 = true then ((spec_l1In.f ((rd_T75 x29 x31).f1) 0 (wrap64 (x31 + 1))).bind fun t153 => (if t153 = true then ((spec_l1In.f ((rd_T75 x29 x31).f2) 0 (wrap64 (x31 + 1))).bind fun t154 => (if t154 = true then (spec_l7Table.l0 k x29 x30 (wrap64 (x31 + 1)) x148000 x148001 x148002) else (some (([] : List Bool), false)))) else (some (([] : List Bool), false)))) else (some (([] : List Bool), false)))) else (none)) else (none)) else (spec_l7Table.l1 k ([] : List Bool) 0 x148000 x148001 x148002)
def spec_l7Table.l1 : Nat → List Bool → Int → Int → List (S75) → Int → Option (List Bool × Bool)
 | 0, _, _, _, _, _ => none
 | k + 1, x6, x7, x148000, x148001, x148002 => if 0 ≤ (IntKind.u64.wrap (x148000)) then (if x7 < (shl .i64 1 (IntKind.u64.wrap (x148000))) then ((spec_l4Model.f k x148000 x7).bind fun t155 => ((spec_l7Eval.f k x148000 x148001 x148002 t155).bind fun t158 => (if x6.length < 140737488355328 then (spec_l7Table.l1 k (x6 ++ [t158]) (wrap64 (x7 + 1)) x148000 x148001 x148002) else (none)))) else (some (x6, true))) else (none)
end
def spec_l7Table.f (k : Nat) (a0_0 : Int) (l0_1 : List (S75)) (a0_2 : Int) : Option (List Bool × Bool) := (spec_l1In.f a0_0 0 6).bind fun t148 => (if t148 = true then (if (l0_1.length : Int) > 64 then (spec_l7Table.j0 k true a0_0 l0_1 a0_2) else ((spec_l1In.f a0_2 0 (wrap64 ((l0_1.length : Int) + 1))).bind fun t149 => (spec_l7Table.j0 k (!t149) a0_0 l0_1 a0_2))) else (spec_l7Table.j0 k true a0_0 l0_1 a0_2))
def spec_l7Table.T13 : Bool × List (List Nat × List Nat) := (true, [([], []), ([], []), ([], []), ([2], [2]), ([], []), ([3, 4], [3, 4]), ([1, 5, 5], [1, 5]), ([6], [6]), ([0, 7, 6], [0, 7]), ([8, 8, 0, 1, 2, 3, 4, 5, 6, 7, 8], [0, 8])])
def spec_l7Table.B13 : List Nat := [0, 0, 0, 4, 0, 28, 62, 126, 255, 511]
theorem spec_l7Table.tab13 : rtab .any (opsOf Try.f60 13) = spec_l7Table.T13 := by kernel_rfl
theorem spec_l7Table.bits13 : waitsOk spec_l7Table.T13.2 spec_l7Table.B13 = true := by kernel_rfl
set_option maxHeartbeats 8000000 in
set_option maxRecDepth 100000 in
theorem spec_l7Table.calls (k : Nat) (a0_0 : Int) (A0_1 : Option Addr) (c0_1 : Nat) (l0_1 : List (S75)) (a0_2 : Int) (r1 : List Bool) (r2 : Bool) (w : World) (hr0_1 : Kd.C k75 w A0_1 l0_1.length l0_1) (hc0_1 : l0_1.length ≤ c0_1) (h : spec_l7Table.f k a0_0 l0_1 a0_2 = some (r1, r2)) :
  Calls Try.prog 60 #[.agg #[.int .i64 a0_0, .slice A0_1 l0_1.length c0_1, .int .i64 a0_2]] w fun e w' => ∃ v0_ : Value, e = .returned (.tuple #[v0_, .bool r2]) ∧ Kd.R Kd.bool 4 w' w.heap.size (fun _ => True) v0_ r1 ∧ Below w.heap.size w w' := by
 have hu30 := Try.underlying30
 have hu75 := Try.underlying75
 have HR0_1 := am_ hr0_1
 have HC0_1 := am_ hc0_1
 clear hr0_1 hc0_1
 have HB := am_ (Below.refl w.heap.size w)
 have H : ((spec_l1In.f a0_0 0 6).bind fun t148 => (if t148 = true then (if (l0_1.length : Int) > 64 then (spec_l7Table.j0 k true a0_0 l0_1 a0_2) else ((spec_l1In.f a0_2 0 (wrap64 ((l0_1.length : Int) + 1))).bind fun t149 => (spec_l7Table.j0 k (!t149) a0_0 l0_1 a0_2))) else (spec_l7Table.j0 k true a0_0 l0_1 a0_2))) = some (r1, r2) := h
 clear h
 have HC2 := am_ H
 clear H
 go_enter Try.func60, Try.ntmps60
 go_upto_region 1 with (first | ((with_reducible refine gate_dst (N := 1) rfl ?_); (try (refine gate_guard (by rfl) ?_; dsimp only)); refine boxq_ (N := 1) (cs := #[.int .i64 a0_0, .slice A0_1 l0_1.length c0_1, .int .i64 a0_2]) (t := 30) ?_; intro gb147 hg w3 hbox hb; have BK147 := am_ (hbox); have GW147 := gz_ hg; have GE147 := gz_ hg; replace HB := bs_ hb; clear hb hbox hg))
 (try simp only [Act.put, List.setIfInBounds_toArray, List.set_cons_zero, List.set_cons_succ])
 go_cut [27] (fun v27 wc => ∃ (kq : Nat) (x27_1 : Bool), v27 = .bool x27_1 ∧ Aside0 (spec_l7Table.j0 kq x27_1 a0_0 l0_1 a0_2 = some (r1, r2)) ∧ Aside0 (kq ≤ k) ∧ Aside0 (wc.heap[gb147]? = some (.cells #[.int .i64 a0_0, (.slice A0_1 l0_1.length c0_1), .int .i64 a0_2] 30 (0, 0))) ∧ Aside0 (Below w.heap.size w wc))
 case first =>
  have H := HC2.out
  clear HC2
  replace H := Option.bind_eq_some_iff.mp H
  obtain ⟨t148, A40, H⟩ := H
  replace H : (if t148 = true then (if (l0_1.length : Int) > 64 then (spec_l7Table.j0 k true a0_0 l0_1 a0_2) else ((spec_l1In.f a0_2 0 (wrap64 ((l0_1.length : Int) + 1))).bind fun t149 => (spec_l7Table.j0 k (!t149) a0_0 l0_1 a0_2))) else (spec_l7Table.j0 k true a0_0 l0_1 a0_2)) = some (r1, r2) := H
  have A4 := am_ A40
  clear A40
  by_cases c5 : t148 = true
  ·subst c5
   have H1 : (if (l0_1.length : Int) > 64 then (spec_l7Table.j0 k true a0_0 l0_1 a0_2) else ((spec_l1In.f a0_2 0 (wrap64 ((l0_1.length : Int) + 1))).bind fun t149 => (spec_l7Table.j0 k (!t149) a0_0 l0_1 a0_2))) = some (r1, r2) := by rw [if_pos rfl] at H; exact H
   clear H
   have H := H1
   clear H1
   by_cases c6 : (l0_1.length : Int) > 64
   ·rw [if_pos c6] at H
    have c6b0 : decide (64 < (l0_1.length : Int)) = true := decide_eq_true c6
    have c6b1 : decide (64 < l0_1.length) = true := decide_eq_true (by omega)
    clear c6
    (first | rw [c6b0] | (simp only [i64_w, i32_w]; rw [c6b0]) | skip)
    have H' := am_ H
    clear H
    have hcz7_0 := cq_ BK147.out 0 (.int .i64 a0_0)
    have hcz7_1 := cq_ BK147.out 1 (.slice A0_1 l0_1.length c0_1)
    have hcz7_2 := cq_ BK147.out 2 (.int .i64 a0_2)
    have hfz7_0 := blk_frozen BK147.out 0
    have hfz7_1 := blk_frozen BK147.out 1
    have hfz7_2 := blk_frozen BK147.out 2
    go_wp2_with (first | ((with_reducible refine gl_ 67 rfl ?_); refine goesM_ (some 10) Try.func67 #[.int .i64 a0_0, .int .i64 0, .int .i64 6] ?_; (with_reducible refine (spec_l1In.calls a0_0 0 6 true _ A4.out).mono ?_); rintro e w' ⟨rfl, ⟨nd, rfl⟩⟩; refine ⟨_, rfl, ?_⟩))
    go_meet
    case rel => exact ⟨_, (true), y30_, H', ⟨by first | omega | exact Nat.le_refl _⟩, ⟨bk_ BK147.out⟩, ⟨bq_⟩⟩
   ·rw [if_neg c6] at H
    have c6b0 : decide (64 < (l0_1.length : Int)) = false := decide_eq_false c6
    have c6b1 : decide (64 < l0_1.length) = false := decide_eq_false (by omega)
    clear c6
    (first | rw [c6b0] | (simp only [i64_w, i32_w]; rw [c6b0]) | skip)
    replace H := Option.bind_eq_some_iff.mp H
    obtain ⟨t149, A80, H⟩ := H
    replace H : (spec_l7Table.j0 k (!t149) a0_0 l0_1 a0_2) = some (r1, r2) := H
    have A8 := am_ A80
    clear A80
    have H' := am_ H
    clear H
    have hcz9_0 := cq_ BK147.out 0 (.int .i64 a0_0)
    have hcz9_1 := cq_ BK147.out 1 (.slice A0_1 l0_1.length c0_1)
    have hcz9_2 := cq_ BK147.out 2 (.int .i64 a0_2)
    have hfz9_0 := blk_frozen BK147.out 0
    have hfz9_1 := blk_frozen BK147.out 1
    have hfz9_2 := blk_frozen BK147.out 2
    go_wp2_with (first | ((with_reducible refine gl_ 67 rfl ?_); refine goesM_ (some 10) Try.func67 #[.int .i64 a0_0, .int .i64 0, .int .i64 6] ?_; (with_reducible refine (spec_l1In.calls a0_0 0 6 true _ A4.out).mono ?_); rintro e w' ⟨rfl, ⟨nd, rfl⟩⟩; refine ⟨_, rfl, ?_⟩) | (go_at_call 67; (with_reducible refine (spec_l1In.calls a0_2 0 (wrap64 ((l0_1.length : Int) + 1)) t149 _ A8.out).mono ?_); rintro e w' ⟨rfl, ⟨nd, rfl⟩⟩))
    go_meet
    case rel => exact ⟨_, (!t149), y30_, H', ⟨by first | omega | exact Nat.le_refl _⟩, ⟨bk_ BK147.out⟩, ⟨bq_⟩⟩
  ·replace c5 := Bool.eq_false_iff.mpr c5
   subst c5
   have H1 : (spec_l7Table.j0 k true a0_0 l0_1 a0_2) = some (r1, r2) := by rw [if_neg (show ¬ (false = true) by decide)] at H; exact H
   clear H
   have H := H1
   clear H1
   have H' := am_ H
   clear H
   have hcz10_0 := cq_ BK147.out 0 (.int .i64 a0_0)
   have hcz10_1 := cq_ BK147.out 1 (.slice A0_1 l0_1.length c0_1)
   have hcz10_2 := cq_ BK147.out 2 (.int .i64 a0_2)
   have hfz10_0 := blk_frozen BK147.out 0
   have hfz10_1 := blk_frozen BK147.out 1
   have hfz10_2 := blk_frozen BK147.out 2
   go_wp2_with (first | ((with_reducible refine gl_ 67 rfl ?_); refine goesM_ (some 10) Try.func67 #[.int .i64 a0_0, .int .i64 0, .int .i64 6] ?_; (with_reducible refine (spec_l1In.calls a0_0 0 6 false _ A4.out).mono ?_); rintro e w' ⟨rfl, ⟨nd, rfl⟩⟩; refine ⟨_, rfl, ?_⟩))
   go_meet
   case rel => exact ⟨_, (true), y30_, H', ⟨by first | omega | exact Nat.le_refl _⟩, ⟨bk_ BK147.out⟩, ⟨bq_⟩⟩
 case rest =>
  clear HC2
  try clear p2
  try clear c5
  try clear c6
  try clear c6b0
  try clear c6b1
  try clear p6
  try clear hcz10_0
  try clear hcz10_1
  try clear hcz10_2
  try clear hcz7_0
  try clear hcz7_1
  try clear hcz7_2
  try clear hcz9_0
  try clear hcz9_1
  try clear hcz9_2
  try clear hfz10_0
  try clear hfz10_1
  try clear hfz10_2
  try clear hfz7_0
  try clear hfz7_1
  try clear hfz7_2
  try clear hfz9_0
  try clear hfz9_1
  try clear hfz9_2
  obtain ⟨kq, x27_1, rfl, HA, HJ1, BK147, HB⟩ := hcut
  cases kq with
  | zero => exact absurd HA.out (by simp [spec_l7Table.j0])
  | succ kj1 =>
   have H := HA.out
   clear HA
   simp only [spec_l7Table.j0] at H
   by_cases c11 : x27_1 = true
   ·subst c11
    have H1 : (some (([] : List Bool), false)) = some (r1, r2) := by rw [if_pos rfl] at H; exact H
    clear H
    have H := H1
    clear H1
    simp only [Option.some.injEq, Prod.mk.injEq] at H
    obtain ⟨rfl, rfl⟩ := H
    go_wp2
    go_ret2
    exact ⟨_, by first | rfl | (simp [errW_none, errW_some] <;> rfl) | (simp [*, errW_none, errW_some] <;> rfl), by first | exact Kd.R_nil _ _ _ _ _ | exact Kd.N_nil _ _ _ _ _ | exact Kd.V_nil _ _ _ _ _ | exact Kd.Q_nil _ _ _ _ _ | exact Kd.S_nil _ _ _ _ _, bq_⟩
   ·replace c11 := Bool.eq_false_iff.mpr c11
    subst c11
    have H1 : (spec_l7Table.l0 kj1 l0_1 (l0_1.length : Int) 0 a0_0 l0_1 a0_2) = some (r1, r2) := by rw [if_neg (show ¬ (false = true) by decide)] at H; exact H
    clear H
    have H := H1
    clear H1
    have H' := am_ H
    clear H
    have hcz12_0 := cq_ BK147.out 0 (.int .i64 a0_0)
    have hcz12_1 := cq_ BK147.out 1 (.slice A0_1 l0_1.length c0_1)
    have hcz12_2 := cq_ BK147.out 2 (.int .i64 a0_2)
    have hfz12_0 := blk_frozen BK147.out 0
    have hfz12_1 := blk_frozen BK147.out 1
    have hfz12_2 := blk_frozen BK147.out 2
    go_wp2
    go_loopg [31] kj1 (fun kq v31 w' => ∃ (x31_2 : Int), v31 = .int .i64 x31_2 ∧ Aside0 (spec_l7Table.l0 kq l0_1 (l0_1.length : Int) x31_2 a0_0 l0_1 a0_2 = some (r1, r2)) ∧ Aside0 (kq ≤ kj1) ∧ Aside0 (w'.heap[gb147]? = some (.cells #[.int .i64 a0_0, (.slice A0_1 l0_1.length c0_1), .int .i64 a0_2] 30 (0, 0))) ∧ Aside0 (Below w.heap.size w w'))
    case atStart => exact ⟨(0), y30_, H', ⟨Nat.le_refl _⟩, ⟨bk_ BK147.out⟩, ⟨bq_⟩⟩
    case round =>
     clear H'
     try clear c1
     try clear p2
     try clear c5
     try clear c6
     try clear c6b0
     try clear c6b1
     try clear p6
     try clear c11
     try clear hcz10_0
     try clear hcz10_1
     try clear hcz10_2
     try clear hcz12_0
     try clear hcz12_1
     try clear hcz12_2
     try clear hcz7_0
     try clear hcz7_1
     try clear hcz7_2
     try clear hcz9_0
     try clear hcz9_1
     try clear hcz9_2
     try clear hfz10_0
     try clear hfz10_1
     try clear hfz10_2
     try clear hfz12_0
     try clear hfz12_1
     try clear hfz12_2
     try clear hfz7_0
     try clear hfz7_1
     try clear hfz7_2
     try clear hfz9_0
     try clear hfz9_1
     try clear hfz9_2
     try clear p2
     try clear p6
     obtain ⟨x31_2, rfl, HA, HK2, BK147, HB⟩ := hrel
     cases gk with
     | zero => exact absurd HA.out (by simp [spec_l7Table.l0])
     | succ k2 =>
      have H := HA.out
      clear HA
      simp only [spec_l7Table.l0] at H
      by_cases c13 : x31_2 < (l0_1.length : Int)
      ·rw [if_pos c13] at H
       have c13b0 : decide (x31_2 < (l0_1.length : Int)) = true := decide_eq_true c13
       clear c13
       by_cases c14 : 0 ≤ x31_2
       ·rw [if_pos c14] at H
        have c14b0 : decide (0 ≤ x31_2) = true := decide_eq_true c14
        clear c14
        by_cases c15 : x31_2 < (l0_1.length : Int)
        ·rw [if_pos c15] at H
         have c15b0 : decide (x31_2 < (l0_1.length : Int)) = true := decide_eq_true c15
         clear c15
         replace H := Option.bind_eq_some_iff.mp H
         obtain ⟨t152, A160, H⟩ := H
         replace H : (if t152 = true then ((spec_l1In.f ((rd_T75 l0_1 x31_2).f1) 0 (wrap64 (x31_2 + 1))).bind fun t153 => (if t153 = true then ((spec_l1In.f ((rd_T75 l0_1 x31_2).f2) 0 (wrap64 (x31_2 + 1))).bind fun t154 => (if t154 = true then (spec_l7Table.l0 k2 l0_1 (l0_1.length : Int) (wrap64 (x31_2 + 1)) a0_0 l0_1 a0_2) else (some (([] : List Bool), false)))) else (some (([] : List Bool), false)))) else (some (([] : List Bool), false))) = some (r1, r2) := H
         have A16 := am_ A160
         clear A160
         by_cases c17 : t152 = true
         ·subst c17
          have H1 : ((spec_l1In.f ((rd_T75 l0_1 x31_2).f1) 0 (wrap64 (x31_2 + 1))).bind fun t153 => (if t153 = true then ((spec_l1In.f ((rd_T75 l0_1 x31_2).f2) 0 (wrap64 (x31_2 + 1))).bind fun t154 => (if t154 = true then (spec_l7Table.l0 k2 l0_1 (l0_1.length : Int) (wrap64 (x31_2 + 1)) a0_0 l0_1 a0_2) else (some (([] : List Bool), false)))) else (some (([] : List Bool), false)))) = some (r1, r2) := by rw [if_pos rfl] at H; exact H
          clear H
          have H := H1
          clear H1
          replace H := Option.bind_eq_some_iff.mp H
          obtain ⟨t153, A180, H⟩ := H
          replace H : (if t153 = true then ((spec_l1In.f ((rd_T75 l0_1 x31_2).f2) 0 (wrap64 (x31_2 + 1))).bind fun t154 => (if t154 = true then (spec_l7Table.l0 k2 l0_1 (l0_1.length : Int) (wrap64 (x31_2 + 1)) a0_0 l0_1 a0_2) else (some (([] : List Bool), false)))) else (some (([] : List Bool), false))) = some (r1, r2) := H
          have A18 := am_ A180
          clear A180
          by_cases c19 : t153 = true
          ·subst c19
           have H1 : ((spec_l1In.f ((rd_T75 l0_1 x31_2).f2) 0 (wrap64 (x31_2 + 1))).bind fun t154 => (if t154 = true then (spec_l7Table.l0 k2 l0_1 (l0_1.length : Int) (wrap64 (x31_2 + 1)) a0_0 l0_1 a0_2) else (some (([] : List Bool), false)))) = some (r1, r2) := by rw [if_pos rfl] at H; exact H
           clear H
           have H := H1
           clear H1
           replace H := Option.bind_eq_some_iff.mp H
           obtain ⟨t154, A200, H⟩ := H
           replace H : (if t154 = true then (spec_l7Table.l0 k2 l0_1 (l0_1.length : Int) (wrap64 (x31_2 + 1)) a0_0 l0_1 a0_2) else (some (([] : List Bool), false))) = some (r1, r2) := H
           have A20 := am_ A200
           clear A200
           by_cases c21 : t154 = true
           ·subst c21
            have H1 : (spec_l7Table.l0 k2 l0_1 (l0_1.length : Int) (wrap64 (x31_2 + 1)) a0_0 l0_1 a0_2) = some (r1, r2) := by rw [if_pos rfl] at H; exact H
            clear H
            have H := H1
            clear H1
            have H' := am_ H
            clear H
            have p150 : 0 ≤ (x31_2 : Int) := od_
            have q150 : x31_2 < (l0_1.length : Int) := od_
            obtain ⟨ad150, e150, hx150_0, hx150_1, hx150_2⟩ := at_T75 HR0_1.out x31_2 p150 q150
            cases e150
            replace hx150_0 := (HB.out.cell (World.block_lt_of_cell? w _ hx150_0)).trans hx150_0
            replace hx150_1 := (HB.out.cell (World.block_lt_of_cell? w _ hx150_1)).trans hx150_1
            replace hx150_2 := (HB.out.cell (World.block_lt_of_cell? w _ hx150_2)).trans hx150_2
            replace p150 := eq_true p150
            replace q150 := eq_true q150
            go_wp2_with (first | ((with_reducible refine gate_dst (N := 5) rfl ?_); (try (refine gate_guard (by rfl) ?_; dsimp only)); refine boxq_ (N := 5) (cs := #[.int .i64 0, .int .i64 0, .int .i64 0]) (t := 75) ?_; intro gb151 hg w22 hbox hb; have BK151 := am_ (hbox); have GW151 := gz_ hg; have GE151 := gz_ hg; replace HB := bs_ hb; have NB147_151 := nl_ BK147 hg; have NB151_147 := nr_ BK147 hg; replace BK147 := bb_ BK147 hb; clear hb hbox hg; have hnb23 := NB151_147.out; have hnc23 := NB147_151.out; have hcz24_0 := cq_ BK151.out 0 (.int .i64 0); have hcz24_1 := cq_ BK151.out 1 (.int .i64 0); have hcz24_2 := cq_ BK151.out 2 (.int .i64 0); have hfz24_0 := blk_frozen BK151.out 0; have hfz24_1 := blk_frozen BK151.out 1; have hfz24_2 := blk_frozen BK151.out 2; have hcz25_0 := cq_ BK147.out 0 (.int .i64 a0_0); have hcz25_1 := cq_ BK147.out 1 (.slice (some ad150) l0_1.length c0_1); have hcz25_2 := cq_ BK147.out 2 (.int .i64 a0_2); have hfz25_0 := blk_frozen BK147.out 0; have hfz25_1 := blk_frozen BK147.out 1; have hfz25_2 := blk_frozen BK147.out 2) | ((with_reducible refine gl_ 67 rfl ?_); refine goesM_ (some 40) Try.func67 #[.int .i64 ((rd_T75 l0_1 x31_2).f0), .int .i64 1, .int .i64 a0_0] ?_; (with_reducible refine (spec_l1In.calls ((rd_T75 l0_1 x31_2).f0) 1 a0_0 true _ A16.out).mono ?_); rintro e w' ⟨rfl, ⟨nd, rfl⟩⟩; refine ⟨_, rfl, ?_⟩) | (go_at_call 67; (with_reducible refine (spec_l1In.calls ((rd_T75 l0_1 x31_2).f1) 0 (wrap64 (x31_2 + 1)) true _ A18.out).mono ?_); rintro e w' ⟨rfl, ⟨nd, rfl⟩⟩) | (go_at_call 67; (with_reducible refine (spec_l1In.calls ((rd_T75 l0_1 x31_2).f2) 0 (wrap64 (x31_2 + 1)) true _ A20.out).mono ?_); rintro e w' ⟨rfl, ⟨nd, rfl⟩⟩))
            go_roundg k2
            case measure => have := HJ1.out; have := HK2.out; omega
            case rel => exact ⟨(wrap64 (x31_2 + 1)), y30_, H', ⟨by have := HJ1.out; have := HK2.out; omega⟩, ⟨by (with_reducible repeat (first | refine blk_drewN ?_ _ | refine blk_drew ?_ | refine blk_alloc ?_ _)); refine blk_far ?_ NB147_151.out _; (with_reducible repeat (first | refine blk_drewN ?_ _ | refine blk_drew ?_ | refine blk_alloc ?_ _)); refine blk_far ?_ NB147_151.out _; (with_reducible repeat (first | refine blk_drewN ?_ _ | refine blk_drew ?_ | refine blk_alloc ?_ _)); refine blk_far ?_ NB147_151.out _; (with_reducible repeat (first | refine blk_drewN ?_ _ | refine blk_drew ?_ | refine blk_alloc ?_ _)); exact BK147.out⟩, ⟨bq_⟩⟩
           ·replace c21 := Bool.eq_false_iff.mpr c21
            subst c21
            have H1 : (some (([] : List Bool), false)) = some (r1, r2) := by rw [if_neg (show ¬ (false = true) by decide)] at H; exact H
            clear H
            have H := H1
            clear H1
            simp only [Option.some.injEq, Prod.mk.injEq] at H
            obtain ⟨rfl, rfl⟩ := H
            have p150 : 0 ≤ (x31_2 : Int) := od_
            have q150 : x31_2 < (l0_1.length : Int) := od_
            obtain ⟨ad150, e150, hx150_0, hx150_1, hx150_2⟩ := at_T75 HR0_1.out x31_2 p150 q150
            cases e150
            replace hx150_0 := (HB.out.cell (World.block_lt_of_cell? w _ hx150_0)).trans hx150_0
            replace hx150_1 := (HB.out.cell (World.block_lt_of_cell? w _ hx150_1)).trans hx150_1
            replace hx150_2 := (HB.out.cell (World.block_lt_of_cell? w _ hx150_2)).trans hx150_2
            replace p150 := eq_true p150
            replace q150 := eq_true q150
            go_wp2_with (first | ((with_reducible refine gate_dst (N := 5) rfl ?_); (try (refine gate_guard (by rfl) ?_; dsimp only)); refine boxq_ (N := 5) (cs := #[.int .i64 0, .int .i64 0, .int .i64 0]) (t := 75) ?_; intro gb151 hg w26 hbox hb; have BK151 := am_ (hbox); have GW151 := gz_ hg; have GE151 := gz_ hg; replace HB := bs_ hb; have NB147_151 := nl_ BK147 hg; have NB151_147 := nr_ BK147 hg; replace BK147 := bb_ BK147 hb; clear hb hbox hg; have hnb27 := NB151_147.out; have hnc27 := NB147_151.out; have hcz28_0 := cq_ BK151.out 0 (.int .i64 0); have hcz28_1 := cq_ BK151.out 1 (.int .i64 0); have hcz28_2 := cq_ BK151.out 2 (.int .i64 0); have hfz28_0 := blk_frozen BK151.out 0; have hfz28_1 := blk_frozen BK151.out 1; have hfz28_2 := blk_frozen BK151.out 2; have hcz29_0 := cq_ BK147.out 0 (.int .i64 a0_0); have hcz29_1 := cq_ BK147.out 1 (.slice (some ad150) l0_1.length c0_1); have hcz29_2 := cq_ BK147.out 2 (.int .i64 a0_2); have hfz29_0 := blk_frozen BK147.out 0; have hfz29_1 := blk_frozen BK147.out 1; have hfz29_2 := blk_frozen BK147.out 2) | ((with_reducible refine gl_ 67 rfl ?_); refine goesM_ (some 40) Try.func67 #[.int .i64 ((rd_T75 l0_1 x31_2).f0), .int .i64 1, .int .i64 a0_0] ?_; (with_reducible refine (spec_l1In.calls ((rd_T75 l0_1 x31_2).f0) 1 a0_0 true _ A16.out).mono ?_); rintro e w' ⟨rfl, ⟨nd, rfl⟩⟩; refine ⟨_, rfl, ?_⟩) | (go_at_call 67; (with_reducible refine (spec_l1In.calls ((rd_T75 l0_1 x31_2).f1) 0 (wrap64 (x31_2 + 1)) true _ A18.out).mono ?_); rintro e w' ⟨rfl, ⟨nd, rfl⟩⟩) | (go_at_call 67; (with_reducible refine (spec_l1In.calls ((rd_T75 l0_1 x31_2).f2) 0 (wrap64 (x31_2 + 1)) false _ A20.out).mono ?_); rintro e w' ⟨rfl, ⟨nd, rfl⟩⟩))
            go_ret2
            exact ⟨_, by first | rfl | (simp [errW_none, errW_some] <;> rfl) | (simp [*, errW_none, errW_some] <;> rfl), by first | exact Kd.R_nil _ _ _ _ _ | exact Kd.N_nil _ _ _ _ _ | exact Kd.V_nil _ _ _ _ _ | exact Kd.Q_nil _ _ _ _ _ | exact Kd.S_nil _ _ _ _ _, bq_⟩
          ·replace c19 := Bool.eq_false_iff.mpr c19
           subst c19
           have H1 : (some (([] : List Bool), false)) = some (r1, r2) := by rw [if_neg (show ¬ (false = true) by decide)] at H; exact H
           clear H
           have H := H1
           clear H1
           simp only [Option.some.injEq, Prod.mk.injEq] at H
           obtain ⟨rfl, rfl⟩ := H
           have p150 : 0 ≤ (x31_2 : Int) := od_
           have q150 : x31_2 < (l0_1.length : Int) := od_
           obtain ⟨ad150, e150, hx150_0, hx150_1, hx150_2⟩ := at_T75 HR0_1.out x31_2 p150 q150
           cases e150
           replace hx150_0 := (HB.out.cell (World.block_lt_of_cell? w _ hx150_0)).trans hx150_0
           replace hx150_1 := (HB.out.cell (World.block_lt_of_cell? w _ hx150_1)).trans hx150_1
           replace hx150_2 := (HB.out.cell (World.block_lt_of_cell? w _ hx150_2)).trans hx150_2
           replace p150 := eq_true p150
           replace q150 := eq_true q150
           go_wp2_with (first | ((with_reducible refine gate_dst (N := 5) rfl ?_); (try (refine gate_guard (by rfl) ?_; dsimp only)); refine boxq_ (N := 5) (cs := #[.int .i64 0, .int .i64 0, .int .i64 0]) (t := 75) ?_; intro gb151 hg w30 hbox hb; have BK151 := am_ (hbox); have GW151 := gz_ hg; have GE151 := gz_ hg; replace HB := bs_ hb; have NB147_151 := nl_ BK147 hg; have NB151_147 := nr_ BK147 hg; replace BK147 := bb_ BK147 hb; clear hb hbox hg; have hnb31 := NB151_147.out; have hnc31 := NB147_151.out; have hcz32_0 := cq_ BK151.out 0 (.int .i64 0); have hcz32_1 := cq_ BK151.out 1 (.int .i64 0); have hcz32_2 := cq_ BK151.out 2 (.int .i64 0); have hfz32_0 := blk_frozen BK151.out 0; have hfz32_1 := blk_frozen BK151.out 1; have hfz32_2 := blk_frozen BK151.out 2; have hcz33_0 := cq_ BK147.out 0 (.int .i64 a0_0); have hcz33_1 := cq_ BK147.out 1 (.slice (some ad150) l0_1.length c0_1); have hcz33_2 := cq_ BK147.out 2 (.int .i64 a0_2); have hfz33_0 := blk_frozen BK147.out 0; have hfz33_1 := blk_frozen BK147.out 1; have hfz33_2 := blk_frozen BK147.out 2) | ((with_reducible refine gl_ 67 rfl ?_); refine goesM_ (some 40) Try.func67 #[.int .i64 ((rd_T75 l0_1 x31_2).f0), .int .i64 1, .int .i64 a0_0] ?_; (with_reducible refine (spec_l1In.calls ((rd_T75 l0_1 x31_2).f0) 1 a0_0 true _ A16.out).mono ?_); rintro e w' ⟨rfl, ⟨nd, rfl⟩⟩; refine ⟨_, rfl, ?_⟩) | (go_at_call 67; (with_reducible refine (spec_l1In.calls ((rd_T75 l0_1 x31_2).f1) 0 (wrap64 (x31_2 + 1)) false _ A18.out).mono ?_); rintro e w' ⟨rfl, ⟨nd, rfl⟩⟩))
           go_ret2
           exact ⟨_, by first | rfl | (simp [errW_none, errW_some] <;> rfl) | (simp [*, errW_none, errW_some] <;> rfl), by first | exact Kd.R_nil _ _ _ _ _ | exact Kd.N_nil _ _ _ _ _ | exact Kd.V_nil _ _ _ _ _ | exact Kd.Q_nil _ _ _ _ _ | exact Kd.S_nil _ _ _ _ _, bq_⟩
         ·replace c17 := Bool.eq_false_iff.mpr c17
          subst c17
          have H1 : (some (([] : List Bool), false)) = some (r1, r2) := by rw [if_neg (show ¬ (false = true) by decide)] at H; exact H
          clear H
          have H := H1
          clear H1
          simp only [Option.some.injEq, Prod.mk.injEq] at H
          obtain ⟨rfl, rfl⟩ := H
          have p150 : 0 ≤ (x31_2 : Int) := od_
          have q150 : x31_2 < (l0_1.length : Int) := od_
          obtain ⟨ad150, e150, hx150_0, hx150_1, hx150_2⟩ := at_T75 HR0_1.out x31_2 p150 q150
          cases e150
          replace hx150_0 := (HB.out.cell (World.block_lt_of_cell? w _ hx150_0)).trans hx150_0
          replace hx150_1 := (HB.out.cell (World.block_lt_of_cell? w _ hx150_1)).trans hx150_1
          replace hx150_2 := (HB.out.cell (World.block_lt_of_cell? w _ hx150_2)).trans hx150_2
          replace p150 := eq_true p150
          replace q150 := eq_true q150
          go_wp2_with (first | ((with_reducible refine gate_dst (N := 5) rfl ?_); (try (refine gate_guard (by rfl) ?_; dsimp only)); refine boxq_ (N := 5) (cs := #[.int .i64 0, .int .i64 0, .int .i64 0]) (t := 75) ?_; intro gb151 hg w34 hbox hb; have BK151 := am_ (hbox); have GW151 := gz_ hg; have GE151 := gz_ hg; replace HB := bs_ hb; have NB147_151 := nl_ BK147 hg; have NB151_147 := nr_ BK147 hg; replace BK147 := bb_ BK147 hb; clear hb hbox hg; have hnb35 := NB151_147.out; have hnc35 := NB147_151.out; have hcz36_0 := cq_ BK151.out 0 (.int .i64 0); have hcz36_1 := cq_ BK151.out 1 (.int .i64 0); have hcz36_2 := cq_ BK151.out 2 (.int .i64 0); have hfz36_0 := blk_frozen BK151.out 0; have hfz36_1 := blk_frozen BK151.out 1; have hfz36_2 := blk_frozen BK151.out 2; have hcz37_0 := cq_ BK147.out 0 (.int .i64 a0_0); have hcz37_1 := cq_ BK147.out 1 (.slice (some ad150) l0_1.length c0_1); have hcz37_2 := cq_ BK147.out 2 (.int .i64 a0_2); have hfz37_0 := blk_frozen BK147.out 0; have hfz37_1 := blk_frozen BK147.out 1; have hfz37_2 := blk_frozen BK147.out 2) | ((with_reducible refine gl_ 67 rfl ?_); refine goesM_ (some 40) Try.func67 #[.int .i64 ((rd_T75 l0_1 x31_2).f0), .int .i64 1, .int .i64 a0_0] ?_; (with_reducible refine (spec_l1In.calls ((rd_T75 l0_1 x31_2).f0) 1 a0_0 false _ A16.out).mono ?_); rintro e w' ⟨rfl, ⟨nd, rfl⟩⟩; refine ⟨_, rfl, ?_⟩))
          go_ret2
          exact ⟨_, by first | rfl | (simp [errW_none, errW_some] <;> rfl) | (simp [*, errW_none, errW_some] <;> rfl), by first | exact Kd.R_nil _ _ _ _ _ | exact Kd.N_nil _ _ _ _ _ | exact Kd.V_nil _ _ _ _ _ | exact Kd.Q_nil _ _ _ _ _ | exact Kd.S_nil _ _ _ _ _, bq_⟩
        ·rw [if_neg c15] at H
         exact absurd H (by simp)
       ·rw [if_neg c14] at H
        exact absurd H (by simp)
      ·rw [if_neg c13] at H
       have c13b0 : decide (x31_2 < (l0_1.length : Int)) = false := decide_eq_false c13
       clear c13
       have H' := am_ H
       clear H
       go_wp2
       go_loopg [6, 7] k2 (fun kq v6 v7 w' => ∃ (x6_3 : List Bool) (x7_3 : Int), v7 = .int .i64 x7_3 ∧ Aside0 (spec_l7Table.l1 kq x6_3 x7_3 a0_0 l0_1 a0_2 = some (r1, r2)) ∧ Aside0 (kq ≤ k2) ∧ Aside0 (Kd.R Kd.bool 4 w' w.heap.size (fun _ => True) v6 x6_3) ∧ Aside0 (w'.heap[gb147]? = some (.cells #[.int .i64 a0_0, (.slice A0_1 l0_1.length c0_1), .int .i64 a0_2] 30 (0, 0))) ∧ Aside0 (Below w.heap.size w w'))
       case atStart => exact ⟨(([] : List Bool)), (0), y30_, H', ⟨Nat.le_refl _⟩, ⟨by first | exact Kd.R_nil _ _ _ _ _ | exact Kd.N_nil _ _ _ _ _ | exact Kd.V_nil _ _ _ _ _ | exact Kd.Q_nil _ _ _ _ _ | exact Kd.S_nil _ _ _ _ _⟩, ⟨bk_ BK147.out⟩, ⟨bq_⟩⟩
       case round =>
        clear H'
        try clear c1
        try clear p1
        try clear q1
        try clear hx1
        try clear c2
        try clear p2
        try clear c3
        try clear c5
        try clear c6
        try clear c6b0
        try clear c6b1
        try clear p6
        try clear c11
        try clear c13
        try clear c13b0
        try clear c14
        try clear c14b0
        try clear c15
        try clear c15b0
        try clear p15
        try clear q15
        try clear hx15
        try clear c17
        try clear c19
        try clear c21
        try clear c23
        try clear c27
        try clear c31
        try clear c35
        try clear hcz10_0
        try clear hcz10_1
        try clear hcz10_2
        try clear hcz12_0
        try clear hcz12_1
        try clear hcz12_2
        try clear hcz24_0
        try clear hcz24_1
        try clear hcz24_2
        try clear hcz25_0
        try clear hcz25_1
        try clear hcz25_2
        try clear hcz28_0
        try clear hcz28_1
        try clear hcz28_2
        try clear hcz29_0
        try clear hcz29_1
        try clear hcz29_2
        try clear hcz32_0
        try clear hcz32_1
        try clear hcz32_2
        try clear hcz33_0
        try clear hcz33_1
        try clear hcz33_2
        try clear hcz36_0
        try clear hcz36_1
        try clear hcz36_2
        try clear hcz37_0
        try clear hcz37_1
        try clear hcz37_2
        try clear hcz7_0
        try clear hcz7_1
        try clear hcz7_2
        try clear hcz9_0
        try clear hcz9_1
        try clear hcz9_2
        try clear hfz10_0
        try clear hfz10_1
        try clear hfz10_2
        try clear hfz12_0
        try clear hfz12_1
        try clear hfz12_2
        try clear hfz24_0
        try clear hfz24_1
        try clear hfz24_2
        try clear hfz25_0
        try clear hfz25_1
        try clear hfz25_2
        try clear hfz28_0
        try clear hfz28_1
        try clear hfz28_2
        try clear hfz29_0
        try clear hfz29_1
        try clear hfz29_2
        try clear hfz32_0
        try clear hfz32_1
        try clear hfz32_2
        try clear hfz33_0
        try clear hfz33_1
        try clear hfz33_2
        try clear hfz36_0
        try clear hfz36_1
        try clear hfz36_2
        try clear hfz37_0
        try clear hfz37_1
        try clear hfz37_2
        try clear hfz7_0
        try clear hfz7_1
        try clear hfz7_2
        try clear hfz9_0
        try clear hfz9_1
        try clear hfz9_2
        try clear hx150_0
        try clear hx150_1
        try clear hx150_2
        try clear p150
        try clear p2
        try clear p6
        try clear q150
        obtain ⟨x6_3, x7_3, rfl, HA, HK3, HO_6, BK147, HB⟩ := hrel
        cases gk with
        | zero => exact absurd HA.out (by simp [spec_l7Table.l1])
        | succ k3 =>
         have H := HA.out
         clear HA
         simp only [spec_l7Table.l1] at H
         obtain ⟨ji38, hji38⟩ : ∃ j_ : Int, (IntKind.u64.wrap (a0_0)) = j_ := ⟨_, rfl⟩
         replace H : (if 0 ≤ (ji38) then (if x7_3 < (shl .i64 1 (ji38)) then ((spec_l4Model.f k3 a0_0 x7_3).bind fun t155 => ((spec_l7Eval.f k3 a0_0 l0_1 a0_2 t155).bind fun t158 => (if x6_3.length < 140737488355328 then (spec_l7Table.l1 k3 (x6_3 ++ [t158]) (wrap64 (x7_3 + 1)) a0_0 l0_1 a0_2) else (none)))) else (some (x6_3, true))) else (none)) = some (r1, r2) := by first | (rw [hji38] at H; exact H) | (simp only [hji38] at H ⊢; exact H)
         by_cases c39 : 0 ≤ (ji38)
         ·rw [if_pos c39] at H
          have c39b0 := eq_true c39
          have c39b1 : decide (0 ≤ (ji38)) = true := decide_eq_true c39
          clear c39
          obtain ⟨ji40, hji40⟩ : ∃ j_ : Int, (shl .i64 1 (ji38)) = j_ := ⟨_, rfl⟩
          replace H : (if x7_3 < (ji40) then ((spec_l4Model.f k3 a0_0 x7_3).bind fun t155 => ((spec_l7Eval.f k3 a0_0 l0_1 a0_2 t155).bind fun t158 => (if x6_3.length < 140737488355328 then (spec_l7Table.l1 k3 (x6_3 ++ [t158]) (wrap64 (x7_3 + 1)) a0_0 l0_1 a0_2) else (none)))) else (some (x6_3, true))) = some (r1, r2) := by first | (rw [hji40] at H; exact H) | (simp only [hji40] at H ⊢; exact H)
          have hji40_ : (IntKind.i64.wrap (1 * 2 ^ min (ji38).toNat 64)) = ji40 := hji40
          have hji40z : (ji38) ≤ 64 → (IntKind.i64.wrap (1 * 2 ^ (ji38).toNat)) = ji40 := shl_small hji40
          have hji40u : (IntKind.i64.wrap (2 ^ min (ji38).toNat 64)) = ji40 := by have h_ := hji40_; rw [Int.one_mul] at h_; exact h_
          have hji40v : (ji38) ≤ 64 → (IntKind.i64.wrap (2 ^ (ji38).toNat)) = ji40 := fun hle_ => by have h_ := hji40z hle_; rw [Int.one_mul] at h_; exact h_
          have hji40y : (wrap64 (1 * 2 ^ min (ji38).toNat 64)) = ji40 := (i64_w _).symm.trans hji40_
          have hji40x : (ji38) ≤ 64 → (wrap64 (1 * 2 ^ (ji38).toNat)) = ji40 := fun h_ => (i64_w _).symm.trans (hji40z h_)
          by_cases c41 : x7_3 < (ji40)
          ·rw [if_pos c41] at H
           have c41b0 : decide (x7_3 < (ji40)) = true := decide_eq_true c41
           clear c41
           replace H := Option.bind_eq_some_iff.mp H
           obtain ⟨t155, A420, H⟩ := H
           replace H : ((spec_l7Eval.f k3 a0_0 l0_1 a0_2 t155).bind fun t158 => (if x6_3.length < 140737488355328 then (spec_l7Table.l1 k3 (x6_3 ++ [t158]) (wrap64 (x7_3 + 1)) a0_0 l0_1 a0_2) else (none))) = some (r1, r2) := H
           have A42 := am_ A420
           clear A420
           replace H := Option.bind_eq_some_iff.mp H
           obtain ⟨t158, A430, H⟩ := H
           replace H : (if x6_3.length < 140737488355328 then (spec_l7Table.l1 k3 (x6_3 ++ [t158]) (wrap64 (x7_3 + 1)) a0_0 l0_1 a0_2) else (none)) = some (r1, r2) := H
           have A43 := am_ A430
           clear A430
           by_cases c44 : x6_3.length < 140737488355328
           ·rw [if_pos c44] at H
            have LMc44 := am_ c44
            clear c44
            obtain ⟨y159, hy159⟩ : ∃ y_ : List Bool, y_ = (x6_3 ++ [t158]) := ⟨_, rfl⟩
            replace H : (spec_l7Table.l1 k3 y159 (wrap64 (x7_3 + 1)) a0_0 l0_1 a0_2) = some (r1, r2) := by first | (rw [hy159]; with_reducible exact H) | (have H2_ := (Option.bind_some _ _).symm.trans H; rw [hy159]; with_reducible exact H2_) | (have H2_ := (Option.bind_some _ _).symm.trans H; with_reducible exact H2_) | with_reducible exact H | (rw [hy159]; exact H) | exact H
            have Ny159 := am_ hy159
            clear hy159
            have H' := am_ H
            clear H
            have hcz45_0 := cq_ BK147.out 0 (.int .i64 a0_0)
            have hcz45_1 := cq_ BK147.out 1 (.slice A0_1 l0_1.length c0_1)
            have hcz45_2 := cq_ BK147.out 2 (.int .i64 a0_2)
            have hfz45_0 := blk_frozen BK147.out 0
            have hfz45_1 := blk_frozen BK147.out 1
            have hfz45_2 := blk_frozen BK147.out 2
            try go_wp2
            replace HO_6 := am_ (Kd.R_drew HO_6.out)
            replace BK147 := am_ (blk_drew BK147.out)
            replace HB := am_ (below_drew1 HB.out)
            refine start_ (n := 10) (S := fun w' => w'.cell? ⟨gb147, 0, none⟩ = some (.int .i64 a0_0) ∧ w'.cell? ⟨gb147, 1, none⟩ = some (.slice A0_1 l0_1.length c0_1) ∧ w'.cell? ⟨gb147, 2, none⟩ = some (.int .i64 a0_2)) (ds := []) #[false, false, false, false, false, false, false, false, false, false] (by kernel_rfl) rfl rfl ⟨(blk_cell BK147.out 0).trans rfl, (blk_cell BK147.out 1).trans rfl, (blk_cell BK147.out 2).trans rfl⟩ (fun hHeld => ?_); refine with_tabW spec_l7Table.tab13 spec_l7Table.bits13 (fun HT_ HW_ => ?_)
            generalize wr.drew = w46 at HO_6 BK147 HB hHeld ⊢
            refine pure_ (i := 0) (N := some 67) (v := ?_) (a' := ?_) #[true, false, false, false, false, false, false, false, false, false] rfl rfl (any_of HT_.out (by kernel_rfl)) (fun _ _ _ h => h) (Or.inl ⟨by rfl, ?_⟩) ?_ ?_
            rotate_left
            ·intro w'
             go_simp
             with_reducible rfl
            rotate_left
            ·simp only [Act.put, List.setIfInBounds_toArray, List.set_cons_zero, List.set_cons_succ, i64_w, i32_w]
             rfl
            refine pure_ (i := 2) (N := some 69) (v := ?_) (a' := ?_) #[true, false, true, false, false, false, false, false, false, false] rfl rfl (any_of HT_.out (by kernel_rfl)) (fun _ _ _ h => h) (Or.inl ⟨by rfl, ?_⟩) ?_ ?_
            rotate_left
            ·intro w'
             go_simp
             with_reducible rfl
            rotate_left
            ·simp only [Act.put, List.setIfInBounds_toArray, List.set_cons_zero, List.set_cons_succ, i64_w, i32_w]
             rfl
            refine pure_ (i := 4) (N := some 71) (v := ?_) (a' := ?_) #[true, false, true, false, true, false, false, false, false, false] rfl rfl (any_of HT_.out (by kernel_rfl)) (fun _ _ _ h => h) (Or.inl ⟨by rfl, ?_⟩) ?_ ?_
            rotate_left
            ·intro w'
             go_simp
             with_reducible rfl
            rotate_left
            ·simp only [Act.put, List.setIfInBounds_toArray, List.set_cons_zero, List.set_cons_succ, i64_w, i32_w]
             rfl
            refine take_ (i := 1) (N := some 68) (v := ?_) (a' := ?_) #[true, true, true, false, true, false, false, false, false, false] rfl rfl (take_ofW HT_.out HW_.out (by kernel_rfl)) (fun _ _ _ h => h) (Or.inl ⟨by rfl, ?_⟩) hHeld ?_ ?_
            rotate_left
            ·rintro w' ⟨s0, s1, s2⟩
             go_simp
             with_reducible rfl
            rotate_left
            ·simp only [Act.put, List.setIfInBounds_toArray, List.set_cons_zero, List.set_cons_succ, i64_w, i32_w]
             rfl
            refine take_ (i := 3) (N := some 70) (v := ?_) (a' := ?_) #[true, true, true, true, true, false, false, false, false, false] rfl rfl (take_ofW HT_.out HW_.out (by kernel_rfl)) (fun _ _ _ h => h) (Or.inl ⟨by rfl, ?_⟩) hHeld ?_ ?_
            rotate_left
            ·rintro w' ⟨s0, s1, s2⟩
             go_simp
             with_reducible rfl
            rotate_left
            ·simp only [Act.put, List.setIfInBounds_toArray, List.set_cons_zero, List.set_cons_succ, i64_w, i32_w]
             rfl
            refine one_ (i := 5) (N := some 72) #[true, true, true, true, true, true, false, false, false, false] rfl rfl (one_of HT_.out (by kernel_rfl)) (by decide) (fun K hK => ?_)
            refine goes_ Try.func73 (by kernel_rfl) rfl #[.int .i64 a0_0, .int .i64 x7_3] (by rfl) rfl rfl y16_ ?_
            with_reducible refine (spec_l4Model.calls k3 a0_0 x7_3 t155 _ A42.out).mono ?_
            rintro e w47 ⟨v156, rfl, ho0, hb⟩
            refine ⟨_, rfl, ?_⟩
            have n0_ := am_ (Kd.R_elder' (rq_ HO_6.out) (Kd.R_base ho0) hb)
            have n1_ := am_ (Kd.R_lower (Kd.R_new' ho0 (Kd.R_lt (rq_ HO_6.out))) (below_size (bq_)))
            have n2_ := bb_ BK147 hb
            have n3_ := bs_ hb
            clear HO_6 BK147 HB
            have HO_6 := n0_
            have HO157 := n1_
            have BK147 := n2_
            have HB := n3_
            clear n0_ n1_ n2_ n3_
            (try clear hb)
            (try clear hb2)
            (try clear hk)
            (try clear hi)
            (try clear ho0)
            obtain ⟨Ao48, co48, eo48⟩ := Kd.R_slice HO157.out
            (first | subst eo48 | (injection eo48 with f1_ f2_ f3_; have f4_ := f1_.symm; have f5_ := f3_.symm; clear f1_ f2_ f3_; subst f4_; subst f5_))
            refine hK.out _ _ ⟨(blk_cell BK147.out 0).trans rfl, (blk_cell BK147.out 1).trans rfl, (blk_cell BK147.out 2).trans rfl⟩ (fun hHeld => ?_)
            clear hK K
            refine norm_ (a' := ?_) ?_ ?_
            rotate_left
            ·show Act.put _ (some 72) _ = _
             simp only [Act.put, List.setIfInBounds_toArray, List.set_cons_zero, List.set_cons_succ, i64_w, i32_w]
             rfl
            refine one_ (i := 6) (N := some 73) #[true, true, true, true, true, true, true, false, false, false] rfl rfl (one_of HT_.out (by kernel_rfl)) (by decide) (fun K hK => ?_)
            refine goes_ Try.func58 (by kernel_rfl) rfl #[.agg #[.int .i64 a0_0, .slice A0_1 l0_1.length c0_1, .int .i64 a0_2], .slice Ao48 t155.length co48] (by rfl) rfl rfl y16_ ?_
            with_reducible refine (spec_l7Eval.calls k3 a0_0 _ _ l0_1 a0_2 _ _ t155 t158 _ ?side1 ?side2 ?side3 ?side4 A43.out).mono ?_
            (case side1 => exact cm_ (Kd.C_below HR0_1.out HB.out))
            (case side2 => exact HC0_1.out)
            (case side3 => exact cm_ (Kd.R_reads' HO157.out).2.2)
            (case side4 => exact (Kd.R_reads' HO157.out).2.1)
            rintro e w49 ⟨rfl, hb⟩
            refine ⟨_, rfl, ?_⟩
            replace HO_6 := am_ (Kd.R_below (rq_ HO_6.out) hb)
            replace HO157 := am_ (Kd.R_below (rq_ HO157.out) hb)
            replace BK147 := bb_ BK147 hb
            replace HB := bs_ hb
            (try clear hb)
            (try clear hb2)
            (try clear hk)
            (try clear hi)
            refine hK.out _ _ ⟨(blk_cell BK147.out 0).trans rfl, (blk_cell BK147.out 1).trans rfl, (blk_cell BK147.out 2).trans rfl⟩ (fun hHeld => ?_)
            clear hK K
            refine norm_ (a' := ?_) ?_ ?_
            rotate_left
            ·show Act.put _ (some 73) _ = _
             simp only [Act.put, List.setIfInBounds_toArray, List.set_cons_zero, List.set_cons_succ, i64_w, i32_w]
             rfl
            refine one_ (i := 7) (N := some 74) #[true, true, true, true, true, true, true, true, false, false] rfl rfl (one_of HT_.out (by kernel_rfl)) (by decide) (fun K hK => ?_)
            refine value_ (w1 := ?_) (v := ?_) (by rfl) rfl ?_ ?_
            rotate_left 2
            ·go_simp
             constructor
             ·rfl
             ·rfl
            refine hK.out _ _ ⟨(blk_cell (blk_alloc BK147.out _) 0).trans rfl, (blk_cell (blk_alloc BK147.out _) 1).trans rfl, (blk_cell (blk_alloc BK147.out _) 2).trans rfl⟩ (fun hHeld => ?_)
            clear hK K
            refine norm_ (a' := ?_) ?_ ?_
            rotate_left
            ·show Act.put _ (some 74) _ = _
             simp only [Act.put, List.setIfInBounds_toArray, List.set_cons_zero, List.set_cons_succ, i64_w, i32_w]
             rfl
            refine one_ (i := 8) (N := some 75) #[true, true, true, true, true, true, true, true, true, false] rfl rfl (one_of HT_.out (by kernel_rfl)) (by decide) (fun K hK => ?_)
            refine Kd.R_append_step Kd.bool (w0 := w) w.heap.size (by rfl) (.tmp 67) (.tmp 74) 34 4 (.bool false) 1 rfl Try.underlying34 info4 rfl (by decide) (by omega) u6 x6_3 t158 [.bool t158] (fun k_ => some k_ ≠ (.slice Ao48 t155.length co48 : Value).ownBlock) (fun _ => False) rfl rfl ?aP (fun _ hk => hk.elim) ?aF ?aO ?aB ?aS ?aL ?_
            (case aP => exact rfl)
            (case aB => exact (bq_))
            (case aF => exact (fun k_ hk => Kd.fresh' (Kd.R_lt (rq_ HO157.out)) k_ hk))
            (case aO => exact (rq_ (Kd.R_mono HO_6.out (fun _ hk => hk.2))))
            (case aS => exact (below_size (bq_)))
            (case aL => have := LMc44.out; omega)
            intro v160 w50 ho hb hg hat
            rw [← Ny159.out] at ho
            replace BK147 := am_ (blk_grown (bk_ BK147.out) hg (Kd.R_ne HO_6.out BK147.out (by decide)))
            replace HO157 := am_ (Kd.R_after (ok := (fun _ => True)) (rq_ HO157.out) hg hat)
            replace HB := am_ (hb)
            have HO161 := am_ (ho)
            clear HO_6 ho hb hg hat
            refine hK.out _ _ ⟨(blk_cell BK147.out 0).trans rfl, (blk_cell BK147.out 1).trans rfl, (blk_cell BK147.out 2).trans rfl⟩ (fun hHeld => ?_)
            clear hK K
            refine norm_ (a' := ?_) ?_ ?_
            rotate_left
            ·show Act.put _ (some 75) _ = _
             simp only [Act.put, List.setIfInBounds_toArray, List.set_cons_zero, List.set_cons_succ, i64_w, i32_w]
             rfl
            refine pure_ (i := 9) (N := some 6) (v := ?_) (a' := ?_) #[true, true, true, true, true, true, true, true, true, true] rfl rfl (any_of HT_.out (by kernel_rfl)) (fun _ _ _ h => h) (Or.inl ⟨by rfl, ?_⟩) ?_ ?_
            rotate_left
            ·intro w'
             go_simp
             with_reducible rfl
            rotate_left
            ·simp only [Act.put, List.setIfInBounds_toArray, List.set_cons_zero, List.set_cons_succ, i64_w, i32_w]
             rfl
            refine done_ (done_of HT_.out (by kernel_rfl)) ?_
            try go_wp2
            go_roundg k3
            case measure => have := HJ1.out; have := HK2.out; have := HK3.out; omega
            case rel => exact ⟨(y159), (wrap64 (x7_3 + 1)), y30_, H', ⟨by have := HJ1.out; have := HK2.out; have := HK3.out; omega⟩, ⟨rq_ (Kd.R_mono HO161.out (fun _ hk => trivial))⟩, ⟨bk_ BK147.out⟩, ⟨bq_⟩⟩
           ·rw [if_neg c44] at H
            exact absurd H (by simp)
          ·rw [if_neg c41] at H
           have c41b0 : decide (x7_3 < (ji40)) = false := decide_eq_false c41
           clear c41
           simp only [Option.some.injEq, Prod.mk.injEq] at H
           obtain ⟨rfl, rfl⟩ := H
           have hcz51_0 := cq_ BK147.out 0 (.int .i64 a0_0)
           have hcz51_1 := cq_ BK147.out 1 (.slice A0_1 l0_1.length c0_1)
           have hcz51_2 := cq_ BK147.out 2 (.int .i64 a0_2)
           have hfz51_0 := blk_frozen BK147.out 0
           have hfz51_1 := blk_frozen BK147.out 1
           have hfz51_2 := blk_frozen BK147.out 2
           go_wp2
           go_ret2
           exact ⟨_, by first | rfl | (simp [errW_none, errW_some] <;> rfl) | (simp only [← hji38, ← hji40]; first | rfl | (simp [errW_none, errW_some] <;> rfl)) | (simp [*, errW_none, errW_some] <;> rfl), rq_ HO_6.out, bq_⟩
         ·rw [if_neg c39] at H
          exact absurd H (by simp)
def spec_l7Half.l0 : Nat → List Bool → List Bool → Int → Option (List Bool)
 | 0, _, _, _ => none
 | k + 1, x0, x5, x6 => if x6 < (x0.length : Int) then (if 0 ≤ x6 then (if x5.length < 140737488355328 then (spec_l7Half.l0 k x0 (x5 ++ [rdOf false x0 x6]) (wrap64 (x6 + 2))) else (none)) else (none)) else (some x5)
def spec_l7Half.f (k : Nat) (l0 : List Bool) (a1 : Int) : Option (List Bool) := spec_l7Half.l0 k l0 ([] : List Bool) a1
set_option maxHeartbeats 8000000 in
set_option maxRecDepth 100000 in
theorem spec_l7Half.calls (k : Nat) (A0 : Option Addr) (c0 : Nat) (l0 : List Bool) (a1 : Int) (r : List Bool) (w : World) (hr0 : Kd.C Kd.bool w A0 l0.length l0) (hc0 : l0.length ≤ c0) (h : spec_l7Half.f k l0 a1 = some r) :
  Calls Try.prog 102 #[.slice A0 l0.length c0, .int .i64 a1] w fun e w' => ∃ v0_ : Value, e = .returned (v0_) ∧ Kd.R Kd.bool 4 w' w.heap.size (fun _ => True) v0_ r ∧ Below w.heap.size w w' := by
 have HR0 := am_ hr0
 have HC0 := am_ hc0
 clear hr0 hc0
 have HB := am_ (Below.refl w.heap.size w)
 have H : (spec_l7Half.l0 k l0 ([] : List Bool) a1) = some r := h
 clear h
 have H' := am_ H
 clear H
 go_enter Try.func102, Try.ntmps102
 go_wp2
 go_loopg [5, 6] k (fun kq v5 v6 w' => ∃ (x5_1 : List Bool) (x6_1 : Int), v6 = .int .i64 x6_1 ∧ Aside0 (spec_l7Half.l0 kq l0 x5_1 x6_1 = some r) ∧ Aside0 (kq ≤ k) ∧ Aside0 (Kd.R Kd.bool 4 w' w.heap.size (fun _ => True) v5 x5_1) ∧ Aside0 (Below w.heap.size w w'))
 case atStart => exact ⟨(([] : List Bool)), (a1), y30_, H', ⟨Nat.le_refl _⟩, ⟨by first | exact Kd.R_nil _ _ _ _ _ | exact Kd.N_nil _ _ _ _ _ | exact Kd.V_nil _ _ _ _ _ | exact Kd.Q_nil _ _ _ _ _ | exact Kd.S_nil _ _ _ _ _⟩, ⟨bq_⟩⟩
 case round =>
  clear H'
  try clear c1
  try clear p2
  obtain ⟨x5_1, x6_1, rfl, HA, HK1, HO_5, HB⟩ := hrel
  cases gk with
  | zero => exact absurd HA.out (by simp [spec_l7Half.l0])
  | succ k1 =>
   have H := HA.out
   clear HA
   simp only [spec_l7Half.l0] at H
   by_cases c3 : x6_1 < (l0.length : Int)
   ·rw [if_pos c3] at H
    have c3b0 : decide (x6_1 < (l0.length : Int)) = true := decide_eq_true c3
    clear c3
    by_cases c4 : 0 ≤ x6_1
    ·rw [if_pos c4] at H
     have c4b0 : decide (0 ≤ x6_1) = true := decide_eq_true c4
     clear c4
     by_cases c5 : x5_1.length < 140737488355328
     ·rw [if_pos c5] at H
      have LMc5 := am_ c5
      clear c5
      obtain ⟨y163, hy163⟩ : ∃ y_ : List Bool, y_ = (x5_1 ++ [rdOf false l0 x6_1]) := ⟨_, rfl⟩
      replace H : (spec_l7Half.l0 k1 l0 y163 (wrap64 (x6_1 + 2))) = some r := by first | (rw [hy163]; with_reducible exact H) | (have H2_ := (Option.bind_some _ _).symm.trans H; rw [hy163]; with_reducible exact H2_) | (have H2_ := (Option.bind_some _ _).symm.trans H; with_reducible exact H2_) | with_reducible exact H | (rw [hy163]; exact H) | exact H
      have Ny163 := am_ hy163
      clear hy163
      have H' := am_ H
      clear H
      have p162 : 0 ≤ (x6_1 : Int) := od_
      have q162 : x6_1 < (l0.length : Int) := od_
      obtain ⟨ad162, e162, hx162_0⟩ := Kd.at_bool HR0.out x6_1 p162 q162
      cases e162
      replace hx162_0 := (HB.out.cell (World.block_lt_of_cell? w _ hx162_0)).trans hx162_0
      replace p162 := eq_true p162
      replace q162 := eq_true q162
      go_wp2_with (first | ((with_reducible refine gate_builtin (b := .append) (xs := #[.tmp 14, .tmp 19]) rfl ?_); at_builtin; refine Kd.R_append Kd.bool (w0 := w) w.heap.size rfl (.tmp 14) (.tmp 19) 34 4 (.bool false) 1 rfl Try.underlying34 info4 rfl (by decide) (by omega) u5 x5_1 (rdOf false l0 x6_1) [.bool (rdOf false l0 x6_1)] (fun _ => True) (fun _ => False) rfl rfl ?aP (fun _ hk => hk.elim) ?aF ?aO ?aB ?aS ?aL ?_; (case aP => exact rfl); (case aB => exact (bq_)); (case aF => exact (fun _ _ => trivial)); (case aO => exact (rq_ HO_5.out)); (case aS => exact (below_size (bq_))); (case aL => have := LMc5.out; omega); intro v164 w6 ho hb hg hat; rw [← Ny163.out] at ho; replace HB := am_ (hb); have HO165 := am_ (ho); clear HO_5; clear ho hb hg hat))
      go_roundg k1
      case measure => have := HK1.out; omega
      case rel => exact ⟨(y163), (wrap64 (x6_1 + 2)), y30_, H', ⟨by have := HK1.out; omega⟩, ⟨rq_ HO165.out⟩, ⟨bq_⟩⟩
     ·rw [if_neg c5] at H
      exact absurd H (by simp)
    ·rw [if_neg c4] at H
     exact absurd H (by simp)
   ·rw [if_neg c3] at H
    have c3b0 : decide (x6_1 < (l0.length : Int)) = false := decide_eq_false c3
    clear c3
    obtain rfl := Option.some.inj H
    go_wp2
    go_ret
    exact ⟨_, by first | rfl | (simp [errW_none, errW_some] <;> rfl) | (simp [*, errW_none, errW_some] <;> rfl), rq_ HO_5.out, bq_⟩
end Go.Proofs.Ytpndhlcbfobelaa.PDX
