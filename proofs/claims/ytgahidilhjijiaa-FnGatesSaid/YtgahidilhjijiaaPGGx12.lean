import Derived.Test.YtgahidilhjijiaaPGGx0
import Derived.Test.YtgahidilhjijiaaPGGx1
import Derived.Test.YtgahidilhjijiaaPGGx5
namespace Go.Proofs.Ytgahidilhjijiaa.PGG
open Go.RowKit Go.Proofs.YtgahidilhjijiaaW.PrintWords Go.Proofs.YtgahidilhjijiaaW.PrintLast Go.Proofs.YtgahidilhjijiaaW.PrintMore
attribute [local go_sem] max2_int min2_int max_two min_two max_three min_three max_four min_four   -- for this text's walks alone
set_option linter.unusedVariables false
set_option linter.unusedSimpArgs false
mutual
def spec_InputsBy.j0 : Nat → List (S69) → List Bool → Bool → Option (List Bool × Bool)
 | 0, _, _, _ => none
 | k + 1, x0, x1, x18 => if x18 = true then (some (([] : List Bool), false)) else ((spec_l8Inputs.f k x0).bind fun t531 => (spec_InputsBy.l0 k x1 ([] : List Bool) t531 (t531.length : Int) 0))
def spec_InputsBy.l0 : Nat → List Bool → List Bool → List Int → Int → Int → Option (List Bool × Bool)
 | 0, _, _, _, _, _ => none
 | k + 1, x1, x6, x20, x21, x22 => if x22 < x21 then (if 0 ≤ x22 then (if x22 < (x20.length : Int) then (if 0 ≤ (rd x20 x22) then (if (rd x20 x22) < (x1.length : Int) then (if x6.length < 140737488355328 then (spec_InputsBy.l0 k x1 (x6 ++ [rdOf false x1 (rd x20 x22)]) x20 x21 (wrap64 (x22 + 1))) else (none)) else (none)) else (none)) else (none)) else (none)) else (some (x6, true))
end
def spec_InputsBy.f (k : Nat) (l0 : List (S69)) (l1 : List Bool) : Option (List Bool × Bool) := (spec_GoodGates.f k l0).bind fun t530 => (if t530 = true then (spec_InputsBy.j0 k l0 l1 ((l1.length : Int) != (l0.length : Int))) else (spec_InputsBy.j0 k l0 l1 true))
set_option maxHeartbeats 8000000 in
set_option maxRecDepth 100000 in
theorem spec_InputsBy.calls (k : Nat) (A0 : Option Addr) (c0 : Nat) (l0 : List (S69)) (A1 : Option Addr) (c1 : Nat) (l1 : List Bool) (r1 : List Bool) (r2 : Bool) (w : World) (hr0 : Kd.C k69 w A0 l0.length l0) (hc0 : l0.length ≤ c0) (hr1 : Kd.C Kd.bool w A1 l1.length l1) (hc1 : l1.length ≤ c1) (h : spec_InputsBy.f k l0 l1 = some (r1, r2)) :
  Calls Try.prog 30 #[.slice A0 l0.length c0, .slice A1 l1.length c1] w fun e w' => ∃ v0_ : Value, e = .returned (.tuple #[v0_, .bool r2]) ∧ Kd.R Kd.bool 4 w' w.heap.size (fun _ => True) v0_ r1 ∧ Below w.heap.size w w' := by
 have HR0 := am_ hr0
 have HC0 := am_ hc0
 clear hr0 hc0
 have HR1 := am_ hr1
 have HC1 := am_ hc1
 clear hr1 hc1
 have HB := am_ (Below.refl w.heap.size w)
 have H : ((spec_GoodGates.f k l0).bind fun t530 => (if t530 = true then (spec_InputsBy.j0 k l0 l1 ((l1.length : Int) != (l0.length : Int))) else (spec_InputsBy.j0 k l0 l1 true))) = some (r1, r2) := h
 clear h
 have HC3 := am_ H
 clear H
 go_enter Try.func30, Try.ntmps30
 go_upto_region 1 with (fail)
 go_cut [18] (fun v18 wc => ∃ (kq : Nat) (x18_2 : Bool), v18 = .bool x18_2 ∧ Aside0 (spec_InputsBy.j0 kq l0 l1 x18_2 = some (r1, r2)) ∧ Aside0 (kq ≤ k) ∧ Aside0 (Below w.heap.size w wc))
 case first =>
  have H := HC3.out
  clear HC3
  replace H := Option.bind_eq_some_iff.mp H
  obtain ⟨t530, A40, H⟩ := H
  replace H : (if t530 = true then (spec_InputsBy.j0 k l0 l1 ((l1.length : Int) != (l0.length : Int))) else (spec_InputsBy.j0 k l0 l1 true)) = some (r1, r2) := H
  have A4 := am_ A40
  clear A40
  by_cases c5 : t530 = true
  ·subst c5
   have H1 : (spec_InputsBy.j0 k l0 l1 ((l1.length : Int) != (l0.length : Int))) = some (r1, r2) := by rw [if_pos rfl] at H; exact H
   clear H
   have H := H1
   clear H1
   have H' := am_ H
   clear H
   go_wp2_with (first | ((with_reducible refine gl_ 41 rfl ?_); refine goesM_ (some 10) Try.func41 #[.slice A0 l0.length c0] ?_; (with_reducible refine (spec_GoodGates.calls k _ _ l0 true _ ?side1 ?side2 A4.out).mono ?_); (case side1 => exact cm_ (Kd.C_below HR0.out HB.out)); (case side2 => exact HC0.out); rintro e w6 ⟨rfl, hb⟩; refine ⟨_, rfl, ?_⟩; replace HB := bs_ hb; (try clear hb)))
   go_meet
   case rel => exact ⟨_, (((l1.length : Int) != (l0.length : Int))), y53_, H', ⟨by first | omega | exact Nat.le_refl _⟩, ⟨bq_⟩⟩
  ·replace c5 := Bool.eq_false_iff.mpr c5
   subst c5
   have H1 : (spec_InputsBy.j0 k l0 l1 true) = some (r1, r2) := by rw [if_neg (show ¬ (false = true) by decide)] at H; exact H
   clear H
   have H := H1
   clear H1
   have H' := am_ H
   clear H
   go_wp2_with (first | ((with_reducible refine gl_ 41 rfl ?_); refine goesM_ (some 10) Try.func41 #[.slice A0 l0.length c0] ?_; (with_reducible refine (spec_GoodGates.calls k _ _ l0 false _ ?side1 ?side2 A4.out).mono ?_); (case side1 => exact cm_ (Kd.C_below HR0.out HB.out)); (case side2 => exact HC0.out); rintro e w7 ⟨rfl, hb⟩; refine ⟨_, rfl, ?_⟩; replace HB := bs_ hb; (try clear hb)))
   go_meet
   case rel => exact ⟨_, (true), y53_, H', ⟨by first | omega | exact Nat.le_refl _⟩, ⟨bq_⟩⟩
 case rest =>
  clear HC3
  try clear c1
  try clear p2
  try clear c3
  try clear c4
  try clear c5
  obtain ⟨kq, x18_2, rfl, HA, HJ2, HB⟩ := hcut
  cases kq with
  | zero => exact absurd HA.out (by simp [spec_InputsBy.j0])
  | succ kj2 =>
   have H := HA.out
   clear HA
   simp only [spec_InputsBy.j0] at H
   by_cases c8 : x18_2 = true
   ·subst c8
    have H1 : (some (([] : List Bool), false)) = some (r1, r2) := by rw [if_pos rfl] at H; exact H
    clear H
    have H := H1
    clear H1
    simp only [Option.some.injEq, Prod.mk.injEq] at H
    obtain ⟨rfl, rfl⟩ := H
    go_wp2
    go_ret2
    exact ⟨_, by first | rfl | (simp [errW_none, errW_some] <;> rfl) | (simp [*, errW_none, errW_some] <;> rfl), by first | exact Kd.R_nil _ _ _ _ _ | exact Kd.N_nil _ _ _ _ _ | exact Kd.V_nil _ _ _ _ _ | exact Kd.Q_nil _ _ _ _ _ | exact Kd.S_nil _ _ _ _ _, bq_⟩
   ·replace c8 := Bool.eq_false_iff.mpr c8
    subst c8
    have H1 : ((spec_l8Inputs.f kj2 l0).bind fun t531 => (spec_InputsBy.l0 kj2 l1 ([] : List Bool) t531 (t531.length : Int) 0)) = some (r1, r2) := by rw [if_neg (show ¬ (false = true) by decide)] at H; exact H
    clear H
    have H := H1
    clear H1
    replace H := Option.bind_eq_some_iff.mp H
    obtain ⟨t531, A90, H⟩ := H
    replace H : (spec_InputsBy.l0 kj2 l1 ([] : List Bool) t531 (t531.length : Int) 0) = some (r1, r2) := H
    have A9 := am_ A90
    clear A90
    have H' := am_ H
    clear H
    go_wp2_with (first | ((with_reducible refine gl_ 56 rfl ?_); refine goesM_ (some 20) Try.func56 #[.slice A0 l0.length c0] ?_; (with_reducible refine (spec_l8Inputs.calls kj2 _ _ l0 t531 _ ?side1 ?side2 A9.out).mono ?_); (case side1 => exact cm_ (Kd.C_below HR0.out HB.out)); (case side2 => exact HC0.out); rintro e w10 ⟨v532, rfl, ho0, hb⟩; refine ⟨_, rfl, ?_⟩; have HO533 := am_ (Kd.R_lower ho0 (below_size (bq_))); replace HB := bs_ hb; (try clear hb); (try clear ho0); obtain ⟨Ao11, co11, eo11⟩ := Kd.R_slice HO533.out; subst eo11))
    go_loopg [6, 22] kj2 (fun kq v6 v22 w' => ∃ (x6_2 : List Bool) (x22_2 : Int), v22 = .int .i64 x22_2 ∧ Aside0 (spec_InputsBy.l0 kq l1 x6_2 t531 (t531.length : Int) x22_2 = some (r1, r2)) ∧ Aside0 (kq ≤ kj2) ∧ Aside0 (Kd.R Kd.bool 4 w' w.heap.size (fun _ => True) v6 x6_2) ∧ Aside0 (Kd.R (Kd.int .i64) 3 w' w.heap.size (fun _ => True) (.slice Ao11 t531.length co11) t531) ∧ Aside0 (Below w.heap.size w w'))
    case atStart => exact ⟨(([] : List Bool)), (0), y53_, H', ⟨Nat.le_refl _⟩, ⟨by first | exact Kd.R_nil _ _ _ _ _ | exact Kd.N_nil _ _ _ _ _ | exact Kd.V_nil _ _ _ _ _ | exact Kd.Q_nil _ _ _ _ _ | exact Kd.S_nil _ _ _ _ _⟩, ⟨rq_ HO533.out⟩, ⟨bq_⟩⟩
    case round =>
     clear H'
     try clear c1
     try clear p2
     try clear c3
     try clear c4
     try clear c5
     try clear c8
     try clear p2
     obtain ⟨x6_2, x22_2, rfl, HA, HK2, HO_6, HO_20, HB⟩ := hrel
     cases gk with
     | zero => exact absurd HA.out (by simp [spec_InputsBy.l0])
     | succ k2 =>
      have H := HA.out
      clear HA
      simp only [spec_InputsBy.l0] at H
      by_cases c12 : x22_2 < (t531.length : Int)
      ·rw [if_pos c12] at H
       have c12b0 : decide (x22_2 < (t531.length : Int)) = true := decide_eq_true c12
       clear c12
       by_cases c13 : 0 ≤ x22_2
       ·rw [if_pos c13] at H
        have c13b0 : decide (0 ≤ x22_2) = true := decide_eq_true c13
        clear c13
        by_cases c14 : x22_2 < (t531.length : Int)
        ·rw [if_pos c14] at H
         have c14b0 : decide (x22_2 < (t531.length : Int)) = true := decide_eq_true c14
         clear c14
         by_cases c15 : 0 ≤ (rd t531 x22_2)
         ·rw [if_pos c15] at H
          have c15b0 : decide (0 ≤ (rd t531 x22_2)) = true := decide_eq_true c15
          clear c15
          by_cases c16 : (rd t531 x22_2) < (l1.length : Int)
          ·rw [if_pos c16] at H
           have c16b0 : decide ((rd t531 x22_2) < (l1.length : Int)) = true := decide_eq_true c16
           clear c16
           by_cases c17 : x6_2.length < 140737488355328
           ·rw [if_pos c17] at H
            have LMc17 := am_ c17
            clear c17
            obtain ⟨y536, hy536⟩ : ∃ y_ : List Bool, y_ = (x6_2 ++ [rdOf false l1 (rd t531 x22_2)]) := ⟨_, rfl⟩
            replace H : (spec_InputsBy.l0 k2 l1 y536 t531 (t531.length : Int) (wrap64 (x22_2 + 1))) = some (r1, r2) := by first | (rw [hy536]; with_reducible exact H) | (have H2_ := (Option.bind_some _ _).symm.trans H; rw [hy536]; with_reducible exact H2_) | (have H2_ := (Option.bind_some _ _).symm.trans H; with_reducible exact H2_) | with_reducible exact H | (rw [hy536]; exact H) | exact H
            have Ny536 := am_ hy536
            clear hy536
            have H' := am_ H
            clear H
            have p534 : 0 ≤ (x22_2 : Int) := od_
            have q534 : x22_2 < (t531.length : Int) := od_
            obtain ⟨ad534, e534, hx534_0⟩ := Kd.at_int (Kd.R_reads' HO_20.out).2.2 x22_2 p534 q534
            cases e534
            replace p534 := eq_true p534
            replace q534 := eq_true q534
            have p535 : 0 ≤ ((rd t531 x22_2) : Int) := od_
            have q535 : (rd t531 x22_2) < (l1.length : Int) := od_
            obtain ⟨ad535, e535, hx535_0⟩ := Kd.at_bool HR1.out (rd t531 x22_2) p535 q535
            cases e535
            replace hx535_0 := (HB.out.cell (World.block_lt_of_cell? w _ hx535_0)).trans hx535_0
            replace p535 := eq_true p535
            replace q535 := eq_true q535
            go_wp2_with (first | ((with_reducible refine gate_builtin (b := .append) (xs := #[.tmp 26, .tmp 31]) rfl ?_); (try (refine gate_guard (by rfl) ?_; dsimp only)); at_builtin; refine Kd.R_append Kd.bool (w0 := w) w.heap.size rfl (.tmp 26) (.tmp 31) 37 4 (.bool false) 1 rfl Try.underlying37 info4 rfl (by decide) (by omega) u6 x6_2 (rdOf false l1 (rd t531 x22_2)) [.bool (rdOf false l1 (rd t531 x22_2))] (fun _ => True) (fun _ => False) rfl rfl ?aP (fun _ hk => hk.elim) ?aF ?aO ?aB ?aS ?aL ?_; (case aP => exact rfl); (case aB => exact (bq_)); (case aF => exact (fun _ _ => trivial)); (case aO => exact (rq_ HO_6.out)); (case aS => exact (below_size (bq_))); (case aL => have := LMc17.out; omega); intro v537 w18 ho hb hg hat; rw [← Ny536.out] at ho; replace HO_20 := am_ (Kd.R_over' (rq_ HO_20.out) (Kd.R_typed (rq_ HO_6.out)) (by decide) hg); replace HB := am_ (hb); have HO538 := am_ (ho); clear HO_6; clear ho hb hg hat))
            go_roundg k2
            case measure => have := HJ2.out; have := HK2.out; omega
            case rel => exact ⟨(y536), (wrap64 (x22_2 + 1)), y53_, H', ⟨by have := HJ2.out; have := HK2.out; omega⟩, ⟨rq_ HO538.out⟩, ⟨rq_ HO_20.out⟩, ⟨bq_⟩⟩
           ·rw [if_neg c17] at H
            exact absurd H (by simp)
          ·rw [if_neg c16] at H
           exact absurd H (by simp)
         ·rw [if_neg c15] at H
          exact absurd H (by simp)
        ·rw [if_neg c14] at H
         exact absurd H (by simp)
       ·rw [if_neg c13] at H
        exact absurd H (by simp)
      ·rw [if_neg c12] at H
       have c12b0 : decide (x22_2 < (t531.length : Int)) = false := decide_eq_false c12
       clear c12
       simp only [Option.some.injEq, Prod.mk.injEq] at H
       obtain ⟨rfl, rfl⟩ := H
       go_wp2
       go_ret2
       exact ⟨_, by first | rfl | (simp [errW_none, errW_some] <;> rfl) | (simp [*, errW_none, errW_some] <;> rfl), rq_ HO_6.out, bq_⟩
def laws_sameInts.l0 : Nat → List Int → List Int → Int → Int → Option (Bool)
 | 0, _, _, _, _ => none
 | k + 1, x0, x1, x12, x13 => if x13 < x12 then (if 0 ≤ x13 then (if x13 < (x0.length : Int) then (if x13 < (x1.length : Int) then (if (rd x0 x13) = (rd x1 x13) then (laws_sameInts.l0 k x0 x1 x12 (wrap64 (x13 + 1))) else (some false)) else (none)) else (none)) else (none)) else (some true)
def laws_sameInts.f (k : Nat) (l0 : List Int) (l1 : List Int) : Option (Bool) := if (l0.length : Int) = (l1.length : Int) then (laws_sameInts.l0 k l0 l1 (l0.length : Int) 0) else (some false)
set_option maxHeartbeats 8000000 in
set_option maxRecDepth 100000 in
theorem laws_sameInts.calls (k : Nat) (A0 : Option Addr) (c0 : Nat) (l0 : List Int) (A1 : Option Addr) (c1 : Nat) (l1 : List Int) (r : Bool) (w : World) (hr0 : Kd.C (Kd.int .i64) w A0 l0.length l0) (hc0 : l0.length ≤ c0) (hr1 : Kd.C (Kd.int .i64) w A1 l1.length l1) (hc1 : l1.length ≤ c1) (h : laws_sameInts.f k l0 l1 = some r) :
  Calls Try.prog 64 #[.slice A0 l0.length c0, .slice A1 l1.length c1] w fun e w' => e = .returned (.bool r) ∧ Drawn0 w w' := by
 have HR0 := am_ hr0
 have HC0 := am_ hc0
 clear hr0 hc0
 have HR1 := am_ hr1
 have HC1 := am_ hc1
 clear hr1 hc1
 have H : (if (l0.length : Int) = (l1.length : Int) then (laws_sameInts.l0 k l0 l1 (l0.length : Int) 0) else (some false)) = some r := h
 clear h
 by_cases c3 : (l0.length : Int) = (l1.length : Int)
 ·rw [if_pos c3] at H
  have c3b0 : ((l0.length : Int) == (l1.length : Int)) = true := beq_iff_eq.mpr c3
  have c3b1 : ((l0.length : Int) != (l1.length : Int)) = false := bne_eq_false_iff_eq.mpr c3
  have c3b2 : (l0.length == l1.length) = true := by first | simpa using c3 | (simp at c3 ⊢; omega)
  clear c3
  have H' := am_ H
  clear H
  go_enter Try.func64, Try.ntmps64
  go_wp2
  repeat (go_quiet (fail); try go_wp2)
  go_loopg [13] k (fun kq v13 w' => ∃ (x13_1 : Int), v13 = .int .i64 x13_1 ∧ Aside0 (laws_sameInts.l0 kq l0 l1 (l0.length : Int) x13_1 = some r) ∧ Aside0 (kq ≤ k) ∧ Drawn0 w w')
  case atStart => exact ⟨(0), y53_, H', ⟨Nat.le_refl _⟩, by repeat (first | exact Drawn0.refl _ | apply Drawn0.step)⟩
  case round =>
   clear H'
   try clear c1
   try clear p2
   try clear c3
   try clear c3b0
   try clear c3b1
   try clear c3b2
   obtain ⟨x13_1, rfl, HA, HK1, ⟨m1, rfl⟩⟩ := hrel
   cases gk with
   | zero => exact absurd HA.out (by simp [laws_sameInts.l0])
   | succ k1 =>
    have H := HA.out
    clear HA
    simp only [laws_sameInts.l0] at H
    by_cases c4 : x13_1 < (l0.length : Int)
    ·rw [if_pos c4] at H
     have c4b0 : decide (x13_1 < (l0.length : Int)) = true := decide_eq_true c4
     clear c4
     by_cases c5 : 0 ≤ x13_1
     ·rw [if_pos c5] at H
      have c5b0 : decide (0 ≤ x13_1) = true := decide_eq_true c5
      clear c5
      by_cases c6 : x13_1 < (l0.length : Int)
      ·rw [if_pos c6] at H
       have c6b0 : decide (x13_1 < (l0.length : Int)) = true := decide_eq_true c6
       clear c6
       by_cases c7 : x13_1 < (l1.length : Int)
       ·rw [if_pos c7] at H
        have c7b0 : decide (x13_1 < (l1.length : Int)) = true := decide_eq_true c7
        clear c7
        by_cases c8 : (rd l0 x13_1) = (rd l1 x13_1)
        ·rw [if_pos c8] at H
         have c8b0 : ((rd l0 x13_1) == (rd l1 x13_1)) = true := beq_iff_eq.mpr c8
         have c8b1 : ((rd l0 x13_1) != (rd l1 x13_1)) = false := bne_eq_false_iff_eq.mpr c8
         clear c8
         have H' := am_ H
         clear H
         have p539 : 0 ≤ (x13_1 : Int) := od_
         have q539 : x13_1 < (l0.length : Int) := od_
         obtain ⟨ad539, e539, hx539_0⟩ := Kd.at_int HR0.out x13_1 p539 q539
         cases e539
         replace p539 := eq_true p539
         replace q539 := eq_true q539
         have p540 : 0 ≤ (x13_1 : Int) := od_
         have q540 : x13_1 < (l1.length : Int) := od_
         obtain ⟨ad540, e540, hx540_0⟩ := Kd.at_int HR1.out x13_1 p540 q540
         cases e540
         replace p540 := eq_true p540
         replace q540 := eq_true q540
         go_wp2
         repeat (go_quiet (fail); try go_wp2)
         go_roundg k1
         case measure => have := HK1.out; omega
         case rel => exact ⟨(wrap64 (x13_1 + 1)), y53_, H', ⟨by have := HK1.out; omega⟩, by repeat (first | exact Drawn0.refl _ | apply Drawn0.step)⟩
        ·rw [if_neg c8] at H
         have c8b0 : ((rd l0 x13_1) == (rd l1 x13_1)) = false := beq_eq_false_iff_ne.mpr c8
         have c8b1 : ((rd l0 x13_1) != (rd l1 x13_1)) = true := bne_iff_ne.mpr c8
         obtain rfl := Option.some.inj H
         have p539 : 0 ≤ (x13_1 : Int) := od_
         have q539 : x13_1 < (l0.length : Int) := od_
         obtain ⟨ad539, e539, hx539_0⟩ := Kd.at_int HR0.out x13_1 p539 q539
         cases e539
         replace p539 := eq_true p539
         replace q539 := eq_true q539
         have p540 : 0 ≤ (x13_1 : Int) := od_
         have q540 : x13_1 < (l1.length : Int) := od_
         obtain ⟨ad540, e540, hx540_0⟩ := Kd.at_int HR1.out x13_1 p540 q540
         cases e540
         replace p540 := eq_true p540
         replace q540 := eq_true q540
         go_wp2
         repeat (go_quiet (fail); try go_wp2)
         go_ret
         exact ⟨by first | rfl | (simp; done) | (simp [*]; done), by repeat (first | exact Drawn0.refl _ | apply Drawn0.step)⟩
       ·rw [if_neg c7] at H
        exact absurd H (by simp)
      ·rw [if_neg c6] at H
       exact absurd H (by simp)
     ·rw [if_neg c5] at H
      exact absurd H (by simp)
    ·rw [if_neg c4] at H
     have c4b0 : decide (x13_1 < (l0.length : Int)) = false := decide_eq_false c4
     clear c4
     obtain rfl := Option.some.inj H
     go_wp2
     repeat (go_quiet (fail); try go_wp2)
     go_ret
     exact ⟨by first | rfl | (simp; done) | (simp [*]; done), by repeat (first | exact Drawn0.refl _ | apply Drawn0.step)⟩
 ·rw [if_neg c3] at H
  have c3b0 : ((l0.length : Int) == (l1.length : Int)) = false := beq_eq_false_iff_ne.mpr c3
  have c3b1 : ((l0.length : Int) != (l1.length : Int)) = true := bne_iff_ne.mpr c3
  have c3b2 : (l0.length == l1.length) = false := by first | simpa using c3 | (simp at c3 ⊢; omega)
  obtain rfl := Option.some.inj H
  go_enter Try.func64, Try.ntmps64
  go_wp2
  repeat (go_quiet (fail); try go_wp2)
  go_ret
  exact ⟨by first | rfl | (simp; done) | (simp [*]; done), by repeat (first | exact Drawn0.refl _ | apply Drawn0.step)⟩
def laws_sameRows.l0 : Nat → List (List Int) → List (List Int) → Int → Int → Option (Bool)
 | 0, _, _, _, _ => none
 | k + 1, x0, x1, x12, x13 => if x13 < x12 then (if 0 ≤ x13 then (if x13 < (x0.length : Int) then (if x13 < (x1.length : Int) then ((laws_sameInts.f k (rd_L2 x0 x13) (rd_L2 x1 x13)).bind fun t543 => (if t543 = true then (laws_sameRows.l0 k x0 x1 x12 (wrap64 (x13 + 1))) else (some false))) else (none)) else (none)) else (none)) else (some true)
def laws_sameRows.f (k : Nat) (l0 : List (List Int)) (l1 : List (List Int)) : Option (Bool) := if (l0.length : Int) = (l1.length : Int) then (laws_sameRows.l0 k l0 l1 (l0.length : Int) 0) else (some false)
set_option maxHeartbeats 8000000 in
set_option maxRecDepth 100000 in
theorem laws_sameRows.calls (k : Nat) (A0 : Option Addr) (c0 : Nat) (l0 : List (List Int)) (A1 : Option Addr) (c1 : Nat) (l1 : List (List Int)) (r : Bool) (w : World) (hr0 : Kd.C (Kd.slice 3 (Kd.int .i64)) w A0 l0.length l0) (hc0 : l0.length ≤ c0) (hr1 : Kd.C (Kd.slice 3 (Kd.int .i64)) w A1 l1.length l1) (hc1 : l1.length ≤ c1) (h : laws_sameRows.f k l0 l1 = some r) :
  Calls Try.prog 31 #[.slice A0 l0.length c0, .slice A1 l1.length c1] w fun e w' => e = .returned (.bool r) ∧ Drawn0 w w' := by
 have HR0 := am_ hr0
 have HC0 := am_ hc0
 clear hr0 hc0
 have HR1 := am_ hr1
 have HC1 := am_ hc1
 clear hr1 hc1
 have H : (if (l0.length : Int) = (l1.length : Int) then (laws_sameRows.l0 k l0 l1 (l0.length : Int) 0) else (some false)) = some r := h
 clear h
 by_cases c3 : (l0.length : Int) = (l1.length : Int)
 ·rw [if_pos c3] at H
  have c3b0 : ((l0.length : Int) == (l1.length : Int)) = true := beq_iff_eq.mpr c3
  have c3b1 : ((l0.length : Int) != (l1.length : Int)) = false := bne_eq_false_iff_eq.mpr c3
  have c3b2 : (l0.length == l1.length) = true := by first | simpa using c3 | (simp at c3 ⊢; omega)
  clear c3
  have H' := am_ H
  clear H
  go_enter Try.func31, Try.ntmps31
  go_wp2
  repeat (go_quiet (fail); try go_wp2)
  go_loopg [13] k (fun kq v13 w' => ∃ (x13_1 : Int), v13 = .int .i64 x13_1 ∧ Aside0 (laws_sameRows.l0 kq l0 l1 (l0.length : Int) x13_1 = some r) ∧ Aside0 (kq ≤ k) ∧ Drawn0 w w')
  case atStart => exact ⟨(0), y53_, H', ⟨Nat.le_refl _⟩, by repeat (first | exact Drawn0.refl _ | apply Drawn0.step)⟩
  case round =>
   clear H'
   try clear c1
   try clear p2
   try clear c3
   try clear c3b0
   try clear c3b1
   try clear c3b2
   obtain ⟨x13_1, rfl, HA, HK1, ⟨m1, rfl⟩⟩ := hrel
   cases gk with
   | zero => exact absurd HA.out (by simp [laws_sameRows.l0])
   | succ k1 =>
    have H := HA.out
    clear HA
    simp only [laws_sameRows.l0] at H
    by_cases c4 : x13_1 < (l0.length : Int)
    ·rw [if_pos c4] at H
     have c4b0 : decide (x13_1 < (l0.length : Int)) = true := decide_eq_true c4
     clear c4
     by_cases c5 : 0 ≤ x13_1
     ·rw [if_pos c5] at H
      have c5b0 : decide (0 ≤ x13_1) = true := decide_eq_true c5
      clear c5
      by_cases c6 : x13_1 < (l0.length : Int)
      ·rw [if_pos c6] at H
       have c6b0 : decide (x13_1 < (l0.length : Int)) = true := decide_eq_true c6
       clear c6
       by_cases c7 : x13_1 < (l1.length : Int)
       ·rw [if_pos c7] at H
        have c7b0 : decide (x13_1 < (l1.length : Int)) = true := decide_eq_true c7
        clear c7
        replace H := Option.bind_eq_some_iff.mp H
        obtain ⟨t543, A80, H⟩ := H
        replace H : (if t543 = true then (laws_sameRows.l0 k1 l0 l1 (l0.length : Int) (wrap64 (x13_1 + 1))) else (some false)) = some r := H
        have A8 := am_ A80
        clear A80
        by_cases c9 : t543 = true
        ·subst c9
         have H1 : (laws_sameRows.l0 k1 l0 l1 (l0.length : Int) (wrap64 (x13_1 + 1))) = some r := by rw [if_pos rfl] at H; exact H
         clear H
         have H := H1
         clear H1
         have H' := am_ H
         clear H
         have p541 : 0 ≤ (x13_1 : Int) := od_
         have q541 : x13_1 < (l0.length : Int) := od_
         obtain ⟨ad541, A541_0, c541_0, e541, hx541_0, hl541_0, hi541_0⟩ := at_L2 HR0.out x13_1 p541 q541
         cases e541
         have HR541_0 := am_ hi541_0
         have HC541_0 := am_ hl541_0
         clear hi541_0 hl541_0
         replace p541 := eq_true p541
         replace q541 := eq_true q541
         have p542 : 0 ≤ (x13_1 : Int) := od_
         have q542 : x13_1 < (l1.length : Int) := od_
         obtain ⟨ad542, A542_0, c542_0, e542, hx542_0, hl542_0, hi542_0⟩ := at_L2 HR1.out x13_1 p542 q542
         cases e542
         have HR542_0 := am_ hi542_0
         have HC542_0 := am_ hl542_0
         clear hi542_0 hl542_0
         replace p542 := eq_true p542
         replace q542 := eq_true q542
         go_wp2_with (first | (go_at_call 64; (with_reducible refine (laws_sameInts.calls k1 _ _ (rd_L2 l0 x13_1) _ _ (rd_L2 l1 x13_1) true _ ?side1 ?side2 ?side3 ?side4 A8.out).mono ?_); (case side1 => exact cm_ HR541_0.out); (case side2 => exact HC541_0.out); (case side3 => exact cm_ HR542_0.out); (case side4 => exact HC542_0.out); rintro e w' ⟨rfl, ⟨nd, rfl⟩⟩; (try first | exact ⟨rfl, _, World.drewN_drewN _ _ _⟩ | exact ⟨rfl, _, Eq.trans (World.drewN_drewN _ _ _) (congrArg (World.drewN _) (Nat.add_assoc _ _ _))⟩)))
         repeat (go_quiet (first | (go_at_call 64; (with_reducible refine (laws_sameInts.calls k1 _ _ (rd_L2 l0 x13_1) _ _ (rd_L2 l1 x13_1) true _ ?side1 ?side2 ?side3 ?side4 A8.out).mono ?_); (case side1 => exact cm_ HR541_0.out); (case side2 => exact HC541_0.out); (case side3 => exact cm_ HR542_0.out); (case side4 => exact HC542_0.out); rintro e w' ⟨rfl, ⟨nd, rfl⟩⟩; (try first | exact ⟨rfl, _, World.drewN_drewN _ _ _⟩ | exact ⟨rfl, _, Eq.trans (World.drewN_drewN _ _ _) (congrArg (World.drewN _) (Nat.add_assoc _ _ _))⟩))); try go_wp2_with (first | (go_at_call 64; (with_reducible refine (laws_sameInts.calls k1 _ _ (rd_L2 l0 x13_1) _ _ (rd_L2 l1 x13_1) true _ ?side1 ?side2 ?side3 ?side4 A8.out).mono ?_); (case side1 => exact cm_ HR541_0.out); (case side2 => exact HC541_0.out); (case side3 => exact cm_ HR542_0.out); (case side4 => exact HC542_0.out); rintro e w' ⟨rfl, ⟨nd, rfl⟩⟩; (try first | exact ⟨rfl, _, World.drewN_drewN _ _ _⟩ | exact ⟨rfl, _, Eq.trans (World.drewN_drewN _ _ _) (congrArg (World.drewN _) (Nat.add_assoc _ _ _))⟩))))
         go_roundg k1
         case measure => have := HK1.out; omega
         case rel => exact ⟨(wrap64 (x13_1 + 1)), y53_, H', ⟨by have := HK1.out; omega⟩, by repeat (first | exact Drawn0.refl _ | apply Drawn0.step)⟩
        ·replace c9 := Bool.eq_false_iff.mpr c9
         subst c9
         have H1 : (some false) = some r := by rw [if_neg (show ¬ (false = true) by decide)] at H; exact H
         clear H
         have H := H1
         clear H1
         obtain rfl := Option.some.inj H
         have p541 : 0 ≤ (x13_1 : Int) := od_
         have q541 : x13_1 < (l0.length : Int) := od_
         obtain ⟨ad541, A541_0, c541_0, e541, hx541_0, hl541_0, hi541_0⟩ := at_L2 HR0.out x13_1 p541 q541
         cases e541
         have HR541_0 := am_ hi541_0
         have HC541_0 := am_ hl541_0
         clear hi541_0 hl541_0
         replace p541 := eq_true p541
         replace q541 := eq_true q541
         have p542 : 0 ≤ (x13_1 : Int) := od_
         have q542 : x13_1 < (l1.length : Int) := od_
         obtain ⟨ad542, A542_0, c542_0, e542, hx542_0, hl542_0, hi542_0⟩ := at_L2 HR1.out x13_1 p542 q542
         cases e542
         have HR542_0 := am_ hi542_0
         have HC542_0 := am_ hl542_0
         clear hi542_0 hl542_0
         replace p542 := eq_true p542
         replace q542 := eq_true q542
         go_wp2_with (first | (go_at_call 64; (with_reducible refine (laws_sameInts.calls k1 _ _ (rd_L2 l0 x13_1) _ _ (rd_L2 l1 x13_1) false _ ?side1 ?side2 ?side3 ?side4 A8.out).mono ?_); (case side1 => exact cm_ HR541_0.out); (case side2 => exact HC541_0.out); (case side3 => exact cm_ HR542_0.out); (case side4 => exact HC542_0.out); rintro e w' ⟨rfl, ⟨nd, rfl⟩⟩; (try first | exact ⟨rfl, _, World.drewN_drewN _ _ _⟩ | exact ⟨rfl, _, Eq.trans (World.drewN_drewN _ _ _) (congrArg (World.drewN _) (Nat.add_assoc _ _ _))⟩)))
         repeat (go_quiet (first | (go_at_call 64; (with_reducible refine (laws_sameInts.calls k1 _ _ (rd_L2 l0 x13_1) _ _ (rd_L2 l1 x13_1) false _ ?side1 ?side2 ?side3 ?side4 A8.out).mono ?_); (case side1 => exact cm_ HR541_0.out); (case side2 => exact HC541_0.out); (case side3 => exact cm_ HR542_0.out); (case side4 => exact HC542_0.out); rintro e w' ⟨rfl, ⟨nd, rfl⟩⟩; (try first | exact ⟨rfl, _, World.drewN_drewN _ _ _⟩ | exact ⟨rfl, _, Eq.trans (World.drewN_drewN _ _ _) (congrArg (World.drewN _) (Nat.add_assoc _ _ _))⟩))); try go_wp2_with (first | (go_at_call 64; (with_reducible refine (laws_sameInts.calls k1 _ _ (rd_L2 l0 x13_1) _ _ (rd_L2 l1 x13_1) false _ ?side1 ?side2 ?side3 ?side4 A8.out).mono ?_); (case side1 => exact cm_ HR541_0.out); (case side2 => exact HC541_0.out); (case side3 => exact cm_ HR542_0.out); (case side4 => exact HC542_0.out); rintro e w' ⟨rfl, ⟨nd, rfl⟩⟩; (try first | exact ⟨rfl, _, World.drewN_drewN _ _ _⟩ | exact ⟨rfl, _, Eq.trans (World.drewN_drewN _ _ _) (congrArg (World.drewN _) (Nat.add_assoc _ _ _))⟩))))
         go_ret
         exact ⟨by first | rfl | (simp; done) | (simp [*]; done), by repeat (first | exact Drawn0.refl _ | apply Drawn0.step)⟩
       ·rw [if_neg c7] at H
        exact absurd H (by simp)
      ·rw [if_neg c6] at H
       exact absurd H (by simp)
     ·rw [if_neg c5] at H
      exact absurd H (by simp)
    ·rw [if_neg c4] at H
     have c4b0 : decide (x13_1 < (l0.length : Int)) = false := decide_eq_false c4
     clear c4
     obtain rfl := Option.some.inj H
     go_wp2
     repeat (go_quiet (fail); try go_wp2)
     go_ret
     exact ⟨by first | rfl | (simp; done) | (simp [*]; done), by repeat (first | exact Drawn0.refl _ | apply Drawn0.step)⟩
 ·rw [if_neg c3] at H
  have c3b0 : ((l0.length : Int) == (l1.length : Int)) = false := beq_eq_false_iff_ne.mpr c3
  have c3b1 : ((l0.length : Int) != (l1.length : Int)) = true := bne_iff_ne.mpr c3
  have c3b2 : (l0.length == l1.length) = false := by first | simpa using c3 | (simp at c3 ⊢; omega)
  obtain rfl := Option.some.inj H
  go_enter Try.func31, Try.ntmps31
  go_wp2
  repeat (go_quiet (fail); try go_wp2)
  go_ret
  exact ⟨by first | rfl | (simp; done) | (simp [*]; done), by repeat (first | exact Drawn0.refl _ | apply Drawn0.step)⟩
end Go.Proofs.Ytgahidilhjijiaa.PGG
