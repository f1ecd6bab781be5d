import Derived.Test.YtgahidilhjijiaaPGGx0
import Derived.Test.YtgahidilhjijiaaPGGx3
import Derived.Test.YtgahidilhjijiaaPGGx6
namespace Go.Proofs.Ytgahidilhjijiaa.PGG
open Go.RowKit Go.Proofs.YtgahidilhjijiaaW.PrintWords Go.Proofs.YtgahidilhjijiaaW.PrintLast Go.Proofs.YtgahidilhjijiaaW.PrintMore
attribute [local go_sem] max2_int min2_int max_two min_two max_three min_three max_four min_four   -- for this text's walks alone
set_option linter.unusedVariables false
set_option linter.unusedSimpArgs false
def laws_allIn.l0 : Nat → List Bool → List Int → Int → Int → Option (Bool)
 | 0, _, _, _, _ => none
 | k + 1, x1, x7, x8, x9 => if x9 < x8 then (if 0 ≤ x9 then (if x9 < (x7.length : Int) then (if (rd x7 x9) > 0 then (if 0 ≤ (wrap64 ((rd x7 x9) - 1)) then (if (wrap64 ((rd x7 x9) - 1)) < (x1.length : Int) then (if (rdOf false x1 (wrap64 ((rd x7 x9) - 1)) = true) then (if (rd x7 x9) < 0 then (if 0 ≤ (wrap64 ((wrap64 (-(rd x7 x9))) - 1)) then (if (wrap64 ((wrap64 (-(rd x7 x9))) - 1)) < (x1.length : Int) then (if rdOf false x1 (wrap64 ((wrap64 (-(rd x7 x9))) - 1)) = true then (some false) else (laws_allIn.l0 k x1 x7 x8 (wrap64 (x9 + 1)))) else (none)) else (none)) else (laws_allIn.l0 k x1 x7 x8 (wrap64 (x9 + 1)))) else (some false)) else (none)) else (none)) else (if (rd x7 x9) < 0 then (if 0 ≤ (wrap64 ((wrap64 (-(rd x7 x9))) - 1)) then (if (wrap64 ((wrap64 (-(rd x7 x9))) - 1)) < (x1.length : Int) then (if rdOf false x1 (wrap64 ((wrap64 (-(rd x7 x9))) - 1)) = true then (some false) else (laws_allIn.l0 k x1 x7 x8 (wrap64 (x9 + 1)))) else (none)) else (none)) else (laws_allIn.l0 k x1 x7 x8 (wrap64 (x9 + 1))))) else (none)) else (none)) else (some true)
def laws_allIn.f (k : Nat) (l0 : List Int) (l1 : List Bool) : Option (Bool) := laws_allIn.l0 k l1 l0 (l0.length : Int) 0
set_option maxHeartbeats 8000000 in
set_option maxRecDepth 100000 in
theorem laws_allIn.calls (k : Nat) (A0 : Option Addr) (c0 : Nat) (l0 : List Int) (A1 : Option Addr) (c1 : Nat) (l1 : List Bool) (r : Bool) (w : World) (hr0 : Kd.C (Kd.int .i64) w A0 l0.length l0) (hc0 : l0.length ≤ c0) (hr1 : Kd.C Kd.bool w A1 l1.length l1) (hc1 : l1.length ≤ c1) (h : laws_allIn.f k l0 l1 = some r) :
  Calls Try.prog 24 #[.slice A0 l0.length c0, .slice A1 l1.length c1] w fun e w' => e = .returned (.bool r) ∧ Drawn0 w w' := by
 have HR0 := am_ hr0
 have HC0 := am_ hc0
 clear hr0 hc0
 have HR1 := am_ hr1
 have HC1 := am_ hc1
 clear hr1 hc1
 have H : (laws_allIn.l0 k l1 l0 (l0.length : Int) 0) = some r := h
 clear h
 have H' := am_ H
 clear H
 go_enter Try.func24, Try.ntmps24
 go_wp2
 go_loopg [9] k (fun kq v9 w' => ∃ (x9_1 : Int), v9 = .int .i64 x9_1 ∧ Aside0 (laws_allIn.l0 kq l1 l0 (l0.length : Int) x9_1 = some r) ∧ Aside0 (kq ≤ k) ∧ Drawn0 w w')
 case atStart => exact ⟨(0), y53_, H', ⟨Nat.le_refl _⟩, by repeat (first | exact Drawn0.refl _ | apply Drawn0.step)⟩
 case round =>
  clear H'
  try clear c1
  try clear c2
  try clear p2
  obtain ⟨x9_1, rfl, HA, HK1, ⟨m1, rfl⟩⟩ := hrel
  cases gk with
  | zero => exact absurd HA.out (by simp [laws_allIn.l0])
  | succ k1 =>
   have H := HA.out
   clear HA
   simp only [laws_allIn.l0] at H
   by_cases c3 : x9_1 < (l0.length : Int)
   ·rw [if_pos c3] at H
    have c3b0 : decide (x9_1 < (l0.length : Int)) = true := decide_eq_true c3
    clear c3
    by_cases c4 : 0 ≤ x9_1
    ·rw [if_pos c4] at H
     have c4b0 : decide (0 ≤ x9_1) = true := decide_eq_true c4
     clear c4
     by_cases c5 : x9_1 < (l0.length : Int)
     ·rw [if_pos c5] at H
      have c5b0 : decide (x9_1 < (l0.length : Int)) = true := decide_eq_true c5
      clear c5
      by_cases c6 : (rd l0 x9_1) > 0
      ·rw [if_pos c6] at H
       have c6b0 : decide (0 < (rd l0 x9_1)) = true := decide_eq_true c6
       clear c6
       obtain ⟨ji7, hji7⟩ : ∃ j_ : Int, (wrap64 ((rd l0 x9_1) - 1)) = j_ := ⟨_, rfl⟩
       replace H : (if 0 ≤ (ji7) then (if (ji7) < (l1.length : Int) then (if (rdOf false l1 (ji7) = true) then (if (rd l0 x9_1) < 0 then (if 0 ≤ (wrap64 ((wrap64 (-(rd l0 x9_1))) - 1)) then (if (wrap64 ((wrap64 (-(rd l0 x9_1))) - 1)) < (l1.length : Int) then (if rdOf false l1 (wrap64 ((wrap64 (-(rd l0 x9_1))) - 1)) = true then (some false) else (laws_allIn.l0 k1 l1 l0 (l0.length : Int) (wrap64 (x9_1 + 1)))) else (none)) else (none)) else (laws_allIn.l0 k1 l1 l0 (l0.length : Int) (wrap64 (x9_1 + 1)))) else (some false)) else (none)) else (none)) = some r := by first | (rw [hji7] at H; exact H) | (simp only [hji7] at H ⊢; exact H)
       have hji7w : (IntKind.i64.wrap ((rd l0 x9_1) - 1)) = ji7 := (i64_w _).trans hji7
       by_cases c8 : 0 ≤ (ji7)
       ·rw [if_pos c8] at H
        have c8b0 : decide (0 ≤ (ji7)) = true := decide_eq_true c8
        clear c8
        by_cases c9 : (ji7) < (l1.length : Int)
        ·rw [if_pos c9] at H
         have c9b0 : decide ((ji7) < (l1.length : Int)) = true := decide_eq_true c9
         clear c9
         obtain ⟨bq10, hbq10⟩ : ∃ b_ : Bool, b_ = (rdOf false l1 (ji7)) := ⟨_, rfl⟩
         replace H : (if (bq10 = true) then (if (rd l0 x9_1) < 0 then (if 0 ≤ (wrap64 ((wrap64 (-(rd l0 x9_1))) - 1)) then (if (wrap64 ((wrap64 (-(rd l0 x9_1))) - 1)) < (l1.length : Int) then (if rdOf false l1 (wrap64 ((wrap64 (-(rd l0 x9_1))) - 1)) = true then (some false) else (laws_allIn.l0 k1 l1 l0 (l0.length : Int) (wrap64 (x9_1 + 1)))) else (none)) else (none)) else (laws_allIn.l0 k1 l1 l0 (l0.length : Int) (wrap64 (x9_1 + 1)))) else (some false)) = some r := by rw [← hbq10] at H; exact H
         have Nbq10 := am_ hbq10
         clear hbq10
         by_cases c11 : (bq10 = true)
         ·subst c11
          have H1 : (if (rd l0 x9_1) < 0 then (if 0 ≤ (wrap64 ((wrap64 (-(rd l0 x9_1))) - 1)) then (if (wrap64 ((wrap64 (-(rd l0 x9_1))) - 1)) < (l1.length : Int) then (if rdOf false l1 (wrap64 ((wrap64 (-(rd l0 x9_1))) - 1)) = true then (some false) else (laws_allIn.l0 k1 l1 l0 (l0.length : Int) (wrap64 (x9_1 + 1)))) else (none)) else (none)) else (laws_allIn.l0 k1 l1 l0 (l0.length : Int) (wrap64 (x9_1 + 1)))) = some r := by rw [if_pos rfl] at H; exact H
          clear H
          have H := H1
          clear H1
          by_cases c12 : (rd l0 x9_1) < 0
          ·rw [if_pos c12] at H
           have c12b0 : decide ((rd l0 x9_1) < 0) = true := decide_eq_true c12
           clear c12
           obtain ⟨ji13, hji13⟩ : ∃ j_ : Int, (wrap64 ((wrap64 (-(rd l0 x9_1))) - 1)) = j_ := ⟨_, rfl⟩
           replace H : (if 0 ≤ (ji13) then (if (ji13) < (l1.length : Int) then (if rdOf false l1 (ji13) = true then (some false) else (laws_allIn.l0 k1 l1 l0 (l0.length : Int) (wrap64 (x9_1 + 1)))) else (none)) else (none)) = some r := by first | (rw [hji13] at H; exact H) | (simp only [hji13] at H ⊢; exact H)
           have hji13w : (IntKind.i64.wrap ((wrap64 (-(rd l0 x9_1))) - 1)) = ji13 := (i64_w _).trans hji13
           by_cases c14 : 0 ≤ (ji13)
           ·rw [if_pos c14] at H
            have c14b0 : decide (0 ≤ (ji13)) = true := decide_eq_true c14
            clear c14
            by_cases c15 : (ji13) < (l1.length : Int)
            ·rw [if_pos c15] at H
             have c15b0 : decide ((ji13) < (l1.length : Int)) = true := decide_eq_true c15
             clear c15
             obtain ⟨bq16, hbq16⟩ : ∃ b_ : Bool, b_ = (rdOf false l1 (ji13)) := ⟨_, rfl⟩
             replace H : (if bq16 = true then (some false) else (laws_allIn.l0 k1 l1 l0 (l0.length : Int) (wrap64 (x9_1 + 1)))) = some r := by rw [← hbq16] at H; exact H
             have Nbq16 := am_ hbq16
             clear hbq16
             by_cases c17 : bq16 = true
             ·subst c17
              have H1 : (some false) = some r := by rw [if_pos rfl] at H; exact H
              clear H
              have H := H1
              clear H1
              obtain rfl := Option.some.inj H
              have p461 : 0 ≤ (x9_1 : Int) := od_
              have q461 : x9_1 < (l0.length : Int) := od_
              obtain ⟨ad461, e461, hx461_0⟩ := Kd.at_int HR0.out x9_1 p461 q461
              cases e461
              replace p461 := eq_true p461
              replace q461 := eq_true q461
              have p462 : 0 ≤ ((ji7) : Int) := od_
              have q462 : (ji7) < (l1.length : Int) := od_
              obtain ⟨ad462, e462, hx462_0⟩ := Kd.at_bool HR1.out (ji7) p462 q462
              (try rw [← Nbq10.out] at hx462_0)
              (try rw [← Nbq16.out] at hx462_0)
              cases e462
              replace p462 := eq_true p462
              replace q462 := eq_true q462
              have p463 : 0 ≤ ((ji13) : Int) := od_
              have q463 : (ji13) < (l1.length : Int) := od_
              obtain ⟨ad463, e463, hx463_0⟩ := Kd.at_bool HR1.out (ji13) p463 q463
              (try rw [← Nbq10.out] at hx463_0)
              (try rw [← Nbq16.out] at hx463_0)
              obtain rfl : ad462 = ad463 := (by injection e463)
              replace p463 := eq_true p463
              replace q463 := eq_true q463
              go_wp2
              go_ret
              exact ⟨by first | rfl | (simp; done) | (simp only [← hji7, ← hji13] <;> (first | rfl | simp)) | (simp [*]; done), by repeat (first | exact Drawn0.refl _ | apply Drawn0.step)⟩
             ·replace c17 := Bool.eq_false_iff.mpr c17
              subst c17
              have H1 : (laws_allIn.l0 k1 l1 l0 (l0.length : Int) (wrap64 (x9_1 + 1))) = some r := by rw [if_neg (show ¬ (false = true) by decide)] at H; exact H
              clear H
              have H := H1
              clear H1
              have H' := am_ H
              clear H
              have p461 : 0 ≤ (x9_1 : Int) := od_
              have q461 : x9_1 < (l0.length : Int) := od_
              obtain ⟨ad461, e461, hx461_0⟩ := Kd.at_int HR0.out x9_1 p461 q461
              cases e461
              replace p461 := eq_true p461
              replace q461 := eq_true q461
              have p462 : 0 ≤ ((ji7) : Int) := od_
              have q462 : (ji7) < (l1.length : Int) := od_
              obtain ⟨ad462, e462, hx462_0⟩ := Kd.at_bool HR1.out (ji7) p462 q462
              (try rw [← Nbq10.out] at hx462_0)
              (try rw [← Nbq16.out] at hx462_0)
              cases e462
              replace p462 := eq_true p462
              replace q462 := eq_true q462
              have p463 : 0 ≤ ((ji13) : Int) := od_
              have q463 : (ji13) < (l1.length : Int) := od_
              obtain ⟨ad463, e463, hx463_0⟩ := Kd.at_bool HR1.out (ji13) p463 q463
              (try rw [← Nbq10.out] at hx463_0)
              (try rw [← Nbq16.out] at hx463_0)
              obtain rfl : ad462 = ad463 := (by injection e463)
              replace p463 := eq_true p463
              replace q463 := eq_true q463
              go_wp2
              go_roundg k1
              case measure => have := HK1.out; omega
              case rel => exact ⟨(wrap64 (x9_1 + 1)), y53_, H', ⟨by have := HK1.out; omega⟩, by repeat (first | exact Drawn0.refl _ | apply Drawn0.step)⟩
            ·rw [if_neg c15] at H
             exact absurd H (by simp)
           ·rw [if_neg c14] at H
            exact absurd H (by simp)
          ·rw [if_neg c12] at H
           have c12b0 : decide ((rd l0 x9_1) < 0) = false := decide_eq_false c12
           clear c12
           have H' := am_ H
           clear H
           have p461 : 0 ≤ (x9_1 : Int) := od_
           have q461 : x9_1 < (l0.length : Int) := od_
           obtain ⟨ad461, e461, hx461_0⟩ := Kd.at_int HR0.out x9_1 p461 q461
           cases e461
           replace p461 := eq_true p461
           replace q461 := eq_true q461
           have p462 : 0 ≤ ((ji7) : Int) := od_
           have q462 : (ji7) < (l1.length : Int) := od_
           obtain ⟨ad462, e462, hx462_0⟩ := Kd.at_bool HR1.out (ji7) p462 q462
           (try rw [← Nbq10.out] at hx462_0)
           cases e462
           replace p462 := eq_true p462
           replace q462 := eq_true q462
           go_wp2
           go_roundg k1
           case measure => have := HK1.out; omega
           case rel => exact ⟨(wrap64 (x9_1 + 1)), y53_, H', ⟨by have := HK1.out; omega⟩, by repeat (first | exact Drawn0.refl _ | apply Drawn0.step)⟩
         ·replace c11 := Bool.eq_false_iff.mpr c11
          subst c11
          have H1 : (some false) = some r := by rw [if_neg (show ¬ (false = true) by decide)] at H; exact H
          clear H
          have H := H1
          clear H1
          obtain rfl := Option.some.inj H
          have p461 : 0 ≤ (x9_1 : Int) := od_
          have q461 : x9_1 < (l0.length : Int) := od_
          obtain ⟨ad461, e461, hx461_0⟩ := Kd.at_int HR0.out x9_1 p461 q461
          cases e461
          replace p461 := eq_true p461
          replace q461 := eq_true q461
          have p462 : 0 ≤ ((ji7) : Int) := od_
          have q462 : (ji7) < (l1.length : Int) := od_
          obtain ⟨ad462, e462, hx462_0⟩ := Kd.at_bool HR1.out (ji7) p462 q462
          (try rw [← Nbq10.out] at hx462_0)
          cases e462
          replace p462 := eq_true p462
          replace q462 := eq_true q462
          go_wp2
          go_ret
          exact ⟨by first | rfl | (simp; done) | (simp only [← hji7] <;> (first | rfl | simp)) | (simp [*]; done), by repeat (first | exact Drawn0.refl _ | apply Drawn0.step)⟩
        ·rw [if_neg c9] at H
         exact absurd H (by simp)
       ·rw [if_neg c8] at H
        exact absurd H (by simp)
      ·rw [if_neg c6] at H
       have c6b0 : decide (0 < (rd l0 x9_1)) = false := decide_eq_false c6
       clear c6
       by_cases c18 : (rd l0 x9_1) < 0
       ·rw [if_pos c18] at H
        have c18b0 : decide ((rd l0 x9_1) < 0) = true := decide_eq_true c18
        clear c18
        obtain ⟨ji19, hji19⟩ : ∃ j_ : Int, (wrap64 ((wrap64 (-(rd l0 x9_1))) - 1)) = j_ := ⟨_, rfl⟩
        replace H : (if 0 ≤ (ji19) then (if (ji19) < (l1.length : Int) then (if rdOf false l1 (ji19) = true then (some false) else (laws_allIn.l0 k1 l1 l0 (l0.length : Int) (wrap64 (x9_1 + 1)))) else (none)) else (none)) = some r := by first | (rw [hji19] at H; exact H) | (simp only [hji19] at H ⊢; exact H)
        have hji19w : (IntKind.i64.wrap ((wrap64 (-(rd l0 x9_1))) - 1)) = ji19 := (i64_w _).trans hji19
        by_cases c20 : 0 ≤ (ji19)
        ·rw [if_pos c20] at H
         have c20b0 : decide (0 ≤ (ji19)) = true := decide_eq_true c20
         clear c20
         by_cases c21 : (ji19) < (l1.length : Int)
         ·rw [if_pos c21] at H
          have c21b0 : decide ((ji19) < (l1.length : Int)) = true := decide_eq_true c21
          clear c21
          obtain ⟨bq22, hbq22⟩ : ∃ b_ : Bool, b_ = (rdOf false l1 (ji19)) := ⟨_, rfl⟩
          replace H : (if bq22 = true then (some false) else (laws_allIn.l0 k1 l1 l0 (l0.length : Int) (wrap64 (x9_1 + 1)))) = some r := by rw [← hbq22] at H; exact H
          have Nbq22 := am_ hbq22
          clear hbq22
          by_cases c23 : bq22 = true
          ·subst c23
           have H1 : (some false) = some r := by rw [if_pos rfl] at H; exact H
           clear H
           have H := H1
           clear H1
           obtain rfl := Option.some.inj H
           have p461 : 0 ≤ (x9_1 : Int) := od_
           have q461 : x9_1 < (l0.length : Int) := od_
           obtain ⟨ad461, e461, hx461_0⟩ := Kd.at_int HR0.out x9_1 p461 q461
           cases e461
           replace p461 := eq_true p461
           replace q461 := eq_true q461
           have p464 : 0 ≤ ((ji19) : Int) := od_
           have q464 : (ji19) < (l1.length : Int) := od_
           obtain ⟨ad464, e464, hx464_0⟩ := Kd.at_bool HR1.out (ji19) p464 q464
           (try rw [← Nbq22.out] at hx464_0)
           cases e464
           replace p464 := eq_true p464
           replace q464 := eq_true q464
           go_wp2
           go_ret
           exact ⟨by first | rfl | (simp; done) | (simp only [← hji19] <;> (first | rfl | simp)) | (simp [*]; done), by repeat (first | exact Drawn0.refl _ | apply Drawn0.step)⟩
          ·replace c23 := Bool.eq_false_iff.mpr c23
           subst c23
           have H1 : (laws_allIn.l0 k1 l1 l0 (l0.length : Int) (wrap64 (x9_1 + 1))) = some r := by rw [if_neg (show ¬ (false = true) by decide)] at H; exact H
           clear H
           have H := H1
           clear H1
           have H' := am_ H
           clear H
           have p461 : 0 ≤ (x9_1 : Int) := od_
           have q461 : x9_1 < (l0.length : Int) := od_
           obtain ⟨ad461, e461, hx461_0⟩ := Kd.at_int HR0.out x9_1 p461 q461
           cases e461
           replace p461 := eq_true p461
           replace q461 := eq_true q461
           have p464 : 0 ≤ ((ji19) : Int) := od_
           have q464 : (ji19) < (l1.length : Int) := od_
           obtain ⟨ad464, e464, hx464_0⟩ := Kd.at_bool HR1.out (ji19) p464 q464
           (try rw [← Nbq22.out] at hx464_0)
           cases e464
           replace p464 := eq_true p464
           replace q464 := eq_true q464
           go_wp2
           go_roundg k1
           case measure => have := HK1.out; omega
           case rel => exact ⟨(wrap64 (x9_1 + 1)), y53_, H', ⟨by have := HK1.out; omega⟩, by repeat (first | exact Drawn0.refl _ | apply Drawn0.step)⟩
         ·rw [if_neg c21] at H
          exact absurd H (by simp)
        ·rw [if_neg c20] at H
         exact absurd H (by simp)
       ·rw [if_neg c18] at H
        have c18b0 : decide ((rd l0 x9_1) < 0) = false := decide_eq_false c18
        clear c18
        have H' := am_ H
        clear H
        have p461 : 0 ≤ (x9_1 : Int) := od_
        have q461 : x9_1 < (l0.length : Int) := od_
        obtain ⟨ad461, e461, hx461_0⟩ := Kd.at_int HR0.out x9_1 p461 q461
        cases e461
        replace p461 := eq_true p461
        replace q461 := eq_true q461
        go_wp2
        go_roundg k1
        case measure => have := HK1.out; omega
        case rel => exact ⟨(wrap64 (x9_1 + 1)), y53_, H', ⟨by have := HK1.out; omega⟩, by repeat (first | exact Drawn0.refl _ | apply Drawn0.step)⟩
     ·rw [if_neg c5] at H
      exact absurd H (by simp)
    ·rw [if_neg c4] at H
     exact absurd H (by simp)
   ·rw [if_neg c3] at H
    have c3b0 : decide (x9_1 < (l0.length : Int)) = false := decide_eq_false c3
    clear c3
    obtain rfl := Option.some.inj H
    go_wp2
    go_ret
    exact ⟨by first | rfl | (simp; done) | (simp [*]; done), by repeat (first | exact Drawn0.refl _ | apply Drawn0.step)⟩
def impl_model.l0 : Nat → Int → List Bool → Int → Int → Option (List Bool)
 | 0, _, _, _, _ => none
 | k + 1, x1, x5, x10, x11 => if x11 < x10 then (if 0 ≤ x11 then (if x11 < (x5.length : Int) then (impl_model.l0 k x1 (x5.set (x11 : Int).toNat ((Go.bits .and .i64 (shr .i64 x1 x11) 1) == 1)) x10 (wrap64 (x11 + 1))) else (none)) else (none)) else (some x5)
def impl_model.f (k : Nat) (a0 : Int) (a1 : Int) : Option (List Bool) := if 0 ≤ a0 then (if (a0 : Int).toNat ≤ 281474976710656 then ((some (List.replicate (a0 : Int).toNat false : List Bool)).bind fun y465 => (impl_model.l0 k a1 y465 (y465.length : Int) 0)) else (none)) else (none)
set_option maxHeartbeats 8000000 in
set_option maxRecDepth 100000 in
theorem impl_model.calls (k : Nat) (a0 : Int) (a1 : Int) (r : List Bool) (w : World) (h : impl_model.f k a0 a1 = some r) :
  Calls Try.prog 61 #[.int .i64 a0, .int .i64 a1] w fun e w' => ∃ v0_ : Value, e = .returned (v0_) ∧ Kd.R Kd.bool 4 w' w.heap.size (fun _ => True) v0_ r ∧ Below w.heap.size w w' := by
 have HB := am_ (Below.refl w.heap.size w)
 have H : (if 0 ≤ a0 then (if (a0 : Int).toNat ≤ 281474976710656 then ((some (List.replicate (a0 : Int).toNat false : List Bool)).bind fun y465 => (impl_model.l0 k a1 y465 (y465.length : Int) 0)) else (none)) else (none)) = some r := h
 clear h
 by_cases c3 : 0 ≤ a0
 ·rw [if_pos c3] at H
  have c3b0 := eq_true c3
  have c3b1 : decide (0 ≤ a0) = true := decide_eq_true c3
  clear c3
  by_cases c4 : (a0 : Int).toNat ≤ 281474976710656
  ·rw [if_pos c4] at H
   have c4b0 := eq_true c4
   have c4b1 : decide ((a0 : Int).toNat ≤ 281474976710656) = true := decide_eq_true c4
   clear c4
   obtain ⟨y465, hy465⟩ : ∃ y_ : List Bool, y_ = (List.replicate (a0 : Int).toNat false) := ⟨_, rfl⟩
   replace H : (impl_model.l0 k a1 y465 (y465.length : Int) 0) = some r := by first | (rw [hy465]; with_reducible exact H) | (have H2_ := (Option.bind_some _ _).symm.trans H; rw [hy465]; with_reducible exact H2_) | (have H2_ := (Option.bind_some _ _).symm.trans H; with_reducible exact H2_) | with_reducible exact H | (rw [hy465]; exact H) | exact H
   have Ny465 := am_ hy465
   clear hy465
   have H' := am_ H
   clear H
   go_enter Try.func61, Try.ntmps61
   go_wp2_with (first | ((with_reducible refine gate_dst (N := 8) rfl ?_); refine Kd.R_make Kd.bool _ 4 rfl (N := 8) rfl 37 _ _ rfl a0 rfl rfl Try.underlying37 (.bool false) 1 info4 rfl (by decide) (by omega) false (ok := fun _ => True) (okp := fun _ => True) rfl (fun _ hk => hk) trivial (od_) (Nat.le_trans (Nat.mul_le_mul_right _ (od_ : a0.toNat ≤ 281474976710656)) (by omega)) (Below.refl _ _) (Nat.le_refl _) ?_; intro v466 w5 ho6 hb hg_ hnew_; clear hg_ hnew_; (first | rw [← Ny465.out] at ho6 | (simp only [Int.reduceToNat] at ho6; rw [← Ny465.out] at ho6)); have HO467 := am_ (Kd.R_lower ho6 (below_size (bq_))); replace HB := bs_ hb; clear hb ho6; obtain ⟨Ao7, co7, eo7⟩ := Kd.R_slice HO467.out; subst eo7))
   go_loopg [11] k (fun kq v11 w' => ∃ (x5_1 : List Bool) (x11_1 : Int), v11 = .int .i64 x11_1 ∧ Aside0 (impl_model.l0 kq a1 x5_1 (y465.length : Int) x11_1 = some r) ∧ Aside0 (kq ≤ k) ∧ Aside0 (Kd.R Kd.bool 4 w' w.heap.size (fun _ => True) (.slice Ao7 y465.length co7) x5_1) ∧ Aside0 (Below w.heap.size w w'))
   case atStart => exact ⟨(y465), (0), y53_, H', ⟨Nat.le_refl _⟩, ⟨rq_ HO467.out⟩, ⟨bq_⟩⟩
   case round =>
    clear H'
    try clear p2
    try clear c3
    try clear c3b0
    try clear c3b1
    try clear c4
    try clear c4b0
    try clear c4b1
    try clear c6
    obtain ⟨x5_1, x11_1, rfl, HA, HK1, HO_5, HB⟩ := hrel
    have hl5_1 := (Kd.R_reads' HO_5.out).1
    rw [hl5_1] at HO_5
    (try simp only [hl5_1])
    cases gk with
    | zero => exact absurd HA.out (by simp [impl_model.l0])
    | succ k1 =>
     have H := HA.out
     clear HA
     simp only [impl_model.l0] at H
     by_cases c8 : x11_1 < (y465.length : Int)
     ·rw [if_pos c8] at H
      have c8b0 : decide (x11_1 < (y465.length : Int)) = true := decide_eq_true c8
      (try (have c8hhl5_1 := c8b0; simp only [hl5_1] at c8hhl5_1))
      clear c8
      by_cases c9 : 0 ≤ x11_1
      ·rw [if_pos c9] at H
       have c9b0 := eq_true c9
       have c9b1 : decide (0 ≤ x11_1) = true := decide_eq_true c9
       clear c9
       obtain ⟨ji10, hji10⟩ : ∃ j_ : Int, (shr .i64 a1 x11_1) = j_ := ⟨_, rfl⟩
       replace H : (if x11_1 < (x5_1.length : Int) then (impl_model.l0 k1 a1 (x5_1.set (x11_1 : Int).toNat ((Go.bits .and .i64 (ji10) 1) == 1)) (y465.length : Int) (wrap64 (x11_1 + 1))) else (none)) = some r := by first | (rw [hji10] at H; exact H) | (simp only [hji10] at H ⊢; exact H)
       have hji10_ : (a1 / 2 ^ min x11_1.toNat 64) = ji10 := hji10
       have hji10z : x11_1 ≤ 64 → (a1 / 2 ^ x11_1.toNat) = ji10 := shr_small hji10
       by_cases c11 : x11_1 < (x5_1.length : Int)
       ·rw [if_pos c11] at H
        have c11b0 : decide (x11_1 < (x5_1.length : Int)) = true := decide_eq_true c11
        (try (have c11hhl5_1 := c11b0; simp only [hl5_1] at c11hhl5_1))
        clear c11
        obtain ⟨y468, hy468⟩ : ∃ y_ : List Bool, y_ = (x5_1.set (x11_1 : Int).toNat ((Go.bits .and .i64 (ji10) 1) == 1)) := ⟨_, rfl⟩
        replace H : (impl_model.l0 k1 a1 y468 (y465.length : Int) (wrap64 (x11_1 + 1))) = some r := by first | (rw [hy468]; with_reducible exact H) | (have H2_ := (Option.bind_some _ _).symm.trans H; rw [hy468]; with_reducible exact H2_) | (have H2_ := (Option.bind_some _ _).symm.trans H; with_reducible exact H2_) | with_reducible exact H | (rw [hy468]; exact H) | exact H
        have Ny468 := am_ hy468
        clear hy468
        have H' := am_ H
        clear H
        have p12 : 0 ≤ (x11_1 : Int) := od_
        have q12 : (x11_1 : Int) < ((x5_1.length : Int) : Int) := od_
        obtain ⟨go12, co12, eo12, gb12, gl12, cl12, HG12⟩ := Kd.R_form HO_5.out (by omega)
        (first | cases eo12 | (injection eo12 with ea_ en_ ec_; (first | subst ea_ | (injection ea_ with ea_; subst ea_)); subst ec_; clear en_))
        have GB12 := am_ gb12
        have GG12 := am_ HG12
        clear gb12 gl12 HG12
        obtain ⟨hx12_0, hf12_0⟩ := Kd.R_celln false HO_5.out (x11_1 : Int) p12 q12
        replace p12 := eq_true p12
        replace q12 := eq_true q12
        have HP13 := Kd.R_putg HO_5.out (x11_1 : Int) ((Go.bits .and .i64 (ji10) 1) == 1)
        go_wp2_with (first | ((with_reducible refine gate_store (t := 4) (p := 21) rfl ?_); refine store_event (t := 4) (p := 21) (v := ?vo_w14) (w1 := (wr.setCell ⟨go12, (x11_1 : Int).toNat, none⟩ (.bool ((Go.bits .and .i64 (ji10) 1) == 1)))) ?hg ?ho ?hn ?hr ?_; (case ho => rfl); (case hg => rfl); (case hn => rfl); (case hr => first | (go_simp; done) | (go_simp; rfl)); intro w14 hw; have hg : wr.grownBy w14 (some go12) := (by rw [hw]; exact HP13.2); have hp_ : Kd.R Kd.bool 4 w14 w.heap.size (fun _ => True) (.slice (some ⟨go12, 0, none⟩) x5_1.length co7) y468 := (by rw [hw, Ny468.out]; exact HP13.1); clear HP13; replace HO_5 := am_ (hp_); replace HB := am_ ((by rw [hw]; exact below_set (HB.out) GB12.out : Below w.heap.size w w14)); clear hg hw hp_))
        (try simp only [← hl5_1])
        go_roundg k1
        case measure => have := HK1.out; omega
        case rel => exact ⟨(y468), (wrap64 (x11_1 + 1)), y53_, H', ⟨by have := HK1.out; omega⟩, ⟨by (try simp only [hl5_1]); (with_reducible repeat (first | apply Kd.R_alloc | apply Kd.R_drewN | apply Kd.R_drew)); exact HO_5.out⟩, ⟨bq_⟩⟩
       ·rw [if_neg c11] at H
        exact absurd H (by simp)
      ·rw [if_neg c9] at H
       exact absurd H (by simp)
     ·rw [if_neg c8] at H
      have c8b0 : decide (x11_1 < (y465.length : Int)) = false := decide_eq_false c8
      (try (have c8hhl5_1 := c8b0; simp only [hl5_1] at c8hhl5_1))
      clear c8
      obtain rfl := Option.some.inj H
      go_wp2
      go_ret
      exact ⟨_, by first | rfl | (simp [errW_none, errW_some] <;> rfl) | (simp [*, errW_none, errW_some] <;> rfl), rq_ HO_5.out, bq_⟩
  ·rw [if_neg c4] at H
   exact absurd H (by simp)
 ·rw [if_neg c3] at H
  exact absurd H (by simp)
def impl_output.f (k : Nat) (l0 : List (S69)) (l1 : List Bool) : Option (Bool) := (impl_eval.f k l0 l1).bind fun t469 => (if 0 ≤ (wrap64 ((l0.length : Int) - 1)) then (if (wrap64 ((l0.length : Int) - 1)) < (t469.length : Int) then (some (rdOf false t469 (wrap64 ((l0.length : Int) - 1)))) else (none)) else (none))
set_option maxHeartbeats 8000000 in
set_option maxRecDepth 100000 in
theorem impl_output.calls (k : Nat) (A0 : Option Addr) (c0 : Nat) (l0 : List (S69)) (A1 : Option Addr) (c1 : Nat) (l1 : List Bool) (r : Bool) (w : World) (hr0 : Kd.C k69 w A0 l0.length l0) (hc0 : l0.length ≤ c0) (hr1 : Kd.C Kd.bool w A1 l1.length l1) (hc1 : l1.length ≤ c1) (h : impl_output.f k l0 l1 = some r) :
  Calls Try.prog 62 #[.slice A0 l0.length c0, .slice A1 l1.length c1] w fun e w' => e = .returned (.bool r) ∧ Below w.heap.size w w' := by
 have HR0 := am_ hr0
 have HC0 := am_ hc0
 clear hr0 hc0
 have HR1 := am_ hr1
 have HC1 := am_ hc1
 clear hr1 hc1
 have HB := am_ (Below.refl w.heap.size w)
 have H : ((impl_eval.f k l0 l1).bind fun t469 => (if 0 ≤ (wrap64 ((l0.length : Int) - 1)) then (if (wrap64 ((l0.length : Int) - 1)) < (t469.length : Int) then (some (rdOf false t469 (wrap64 ((l0.length : Int) - 1)))) else (none)) else (none))) = some r := h
 clear h
 replace H := Option.bind_eq_some_iff.mp H
 obtain ⟨t469, A30, H⟩ := H
 replace H : (if 0 ≤ (wrap64 ((l0.length : Int) - 1)) then (if (wrap64 ((l0.length : Int) - 1)) < (t469.length : Int) then (some (rdOf false t469 (wrap64 ((l0.length : Int) - 1)))) else (none)) else (none)) = some r := H
 have A3 := am_ A30
 clear A30
 obtain ⟨ji4, hji4⟩ : ∃ j_ : Int, (wrap64 ((l0.length : Int) - 1)) = j_ := ⟨_, rfl⟩
 replace H : (if 0 ≤ (ji4) then (if (ji4) < (t469.length : Int) then (some (rdOf false t469 (ji4))) else (none)) else (none)) = some r := by first | (rw [hji4] at H; exact H) | (simp only [hji4] at H ⊢; exact H)
 (try rw [hji4] at A3)
 have hji4w : (IntKind.i64.wrap ((l0.length : Int) - 1)) = ji4 := (i64_w _).trans hji4
 by_cases c5 : 0 ≤ (ji4)
 ·rw [if_pos c5] at H
  have c5b0 : decide (0 ≤ (ji4)) = true := decide_eq_true c5
  clear c5
  by_cases c6 : (ji4) < (t469.length : Int)
  ·rw [if_pos c6] at H
   have c6b0 : decide ((ji4) < (t469.length : Int)) = true := decide_eq_true c6
   clear c6
   obtain rfl := Option.some.inj H
   go_enter Try.func62, Try.ntmps62
   go_wp2_with (first | ((with_reducible refine gl_ 55 rfl ?_); refine goesM_ (some 7) Try.func55 #[.slice A0 l0.length c0, .slice A1 l1.length c1] ?_; (with_reducible refine (impl_eval.calls k _ _ l0 (fun k_ => k_ < w.heap.size) _ _ l1 t469 _ ?side1 ?side2 ?side3 A3.out).mono ?_); (case side1 => exact cm_ HR0.out); (case side2 => exact HC0.out); (case side3 => exact Kd.V_mk HC1.out (Kd.F_below (Kd.C_F Kd.heap_bool HR1.out) (bq_))); rintro e w7 ⟨v470, rfl, ho0, hb⟩; refine ⟨_, rfl, ?_⟩; have HO471 := am_ (Kd.R_lower (Kd.R_mono (ok' := fun k_ => True) ho0 (fun _ hk_ => trivial)) (below_size (bq_))); replace HB := bs_ hb; (try clear hb); (try clear ho0); obtain ⟨Ao8, co8, eo8⟩ := Kd.R_slice HO471.out; subst eo8; have p472 : 0 ≤ ((ji4) : Int) := od_; have q472 : (ji4) < (t469.length : Int) := od_; obtain ⟨ad472, e472, hx472_0⟩ := Kd.at_bool (Kd.R_reads' HO471.out).2.2 (ji4) p472 q472; cases e472; replace p472 := eq_true p472; replace q472 := eq_true q472))
   go_ret
   exact ⟨by first | rfl | (simp [errW_none, errW_some] <;> rfl) | (simp only [← hji4]; first | rfl | (simp [errW_none, errW_some] <;> rfl)) | (simp [*, errW_none, errW_some] <;> rfl), bq_⟩
  ·rw [if_neg c6] at H
   exact absurd H (by simp)
 ·rw [if_neg c5] at H
  exact absurd H (by simp)
def impl_CanBe.l0 : Nat → List (S69) → Int → Int → Int → Option (Bool × List Bool × Bool)
 | 0, _, _, _, _ => none
 | k + 1, x0, x5, x15, x16 => if x16 < x15 then ((impl_model.f k x5 x16).bind fun t477 => ((impl_output.f k x0 t477).bind fun t480 => (if t480 = true then (some (true, t477, true)) else (impl_CanBe.l0 k x0 x5 x15 (wrap64 (x16 + 1)))))) else (some (false, ([] : List Bool), true))
def impl_CanBe.f (k : Nat) (l0 : List (S69)) : Option (Bool × List Bool × Bool) := (impl_GoodGates.f k l0).bind fun t473 => (if t473 = true then ((impl_inputs.f k l0).bind fun t474 => (impl_CanBe.l0 k l0 (t474.length : Int) (shl .i64 1 (t474.length : Int)) 0)) else (some (false, ([] : List Bool), false)))
set_option maxHeartbeats 8000000 in
set_option maxRecDepth 100000 in
theorem impl_CanBe.calls (k : Nat) (A0 : Option Addr) (c0 : Nat) (l0 : List (S69)) (r1 : Bool) (r2 : List Bool) (r3 : Bool) (w : World) (hr0 : Kd.C k69 w A0 l0.length l0) (hc0 : l0.length ≤ c0) (h : impl_CanBe.f k l0 = some (r1, r2, r3)) :
  Calls Try.prog 25 #[.slice A0 l0.length c0] w fun e w' => ∃ v1_ : Value, e = .returned (.tuple #[.bool r1, v1_, .bool r3]) ∧ Kd.R Kd.bool 4 w' w.heap.size (fun _ => True) v1_ r2 ∧ Below w.heap.size w w' := by
 have HR0 := am_ hr0
 have HC0 := am_ hc0
 clear hr0 hc0
 have HB := am_ (Below.refl w.heap.size w)
 have H : ((impl_GoodGates.f k l0).bind fun t473 => (if t473 = true then ((impl_inputs.f k l0).bind fun t474 => (impl_CanBe.l0 k l0 (t474.length : Int) (shl .i64 1 (t474.length : Int)) 0)) else (some (false, ([] : List Bool), false)))) = some (r1, r2, r3) := h
 clear h
 replace H := Option.bind_eq_some_iff.mp H
 obtain ⟨t473, A20, H⟩ := H
 replace H : (if t473 = true then ((impl_inputs.f k l0).bind fun t474 => (impl_CanBe.l0 k l0 (t474.length : Int) (shl .i64 1 (t474.length : Int)) 0)) else (some (false, ([] : List Bool), false))) = some (r1, r2, r3) := H
 have A2 := am_ A20
 clear A20
 by_cases c3 : t473 = true
 ·subst c3
  have H1 : ((impl_inputs.f k l0).bind fun t474 => (impl_CanBe.l0 k l0 (t474.length : Int) (shl .i64 1 (t474.length : Int)) 0)) = some (r1, r2, r3) := by rw [if_pos rfl] at H; exact H
  clear H
  have H := H1
  clear H1
  replace H := Option.bind_eq_some_iff.mp H
  obtain ⟨t474, A40, H⟩ := H
  replace H : (impl_CanBe.l0 k l0 (t474.length : Int) (shl .i64 1 (t474.length : Int)) 0) = some (r1, r2, r3) := H
  have A4 := am_ A40
  clear A40
  obtain ⟨ji5, hji5⟩ : ∃ j_ : Int, (shl .i64 1 (t474.length : Int)) = j_ := ⟨_, rfl⟩
  replace H : (impl_CanBe.l0 k l0 (t474.length : Int) ji5 0) = some (r1, r2, r3) := by first | (rw [hji5] at H; exact H) | (simp only [hji5] at H ⊢; exact H)
  (try rw [hji5] at A2)
  (try rw [hji5] at A4)
  have hji5_ : (IntKind.i64.wrap (1 * 2 ^ min (t474.length : Int).toNat 64)) = ji5 := hji5
  have hji5z : (t474.length : Int) ≤ 64 → (IntKind.i64.wrap (1 * 2 ^ (t474.length : Int).toNat)) = ji5 := shl_small hji5
  have hji5p : (IntKind.i64.wrap (1 * 2 ^ min t474.length 64)) = ji5 := hji5_
  have hji5q : (t474.length : Int) ≤ 64 → (IntKind.i64.wrap (1 * 2 ^ t474.length)) = ji5 := hji5z
  have hji5r : (IntKind.i64.wrap (2 ^ min t474.length 64)) = ji5 := by have h_ := hji5p; rw [Int.one_mul] at h_; exact h_
  have hji5s : (t474.length : Int) ≤ 64 → (IntKind.i64.wrap (2 ^ t474.length)) = ji5 := fun hle_ => by have h_ := hji5q hle_; rw [Int.one_mul] at h_; exact h_
  have hji5u : (IntKind.i64.wrap (2 ^ min (t474.length : Int).toNat 64)) = ji5 := by have h_ := hji5_; rw [Int.one_mul] at h_; exact h_
  have hji5v : (t474.length : Int) ≤ 64 → (IntKind.i64.wrap (2 ^ (t474.length : Int).toNat)) = ji5 := fun hle_ => by have h_ := hji5z hle_; rw [Int.one_mul] at h_; exact h_
  have hji5y : (wrap64 (1 * 2 ^ min (t474.length : Int).toNat 64)) = ji5 := (i64_w _).symm.trans hji5_
  have hji5x : (t474.length : Int) ≤ 64 → (wrap64 (1 * 2 ^ (t474.length : Int).toNat)) = ji5 := fun h_ => (i64_w _).symm.trans (hji5z h_)
  have H' := am_ H
  clear H
  go_enter Try.func25, Try.ntmps25
  go_wp2_with (first | ((with_reducible refine gl_ 34 rfl ?_); refine goesM_ (some 9) Try.func34 #[.slice A0 l0.length c0] ?_; (with_reducible refine (impl_GoodGates.calls k _ _ l0 true _ ?side1 ?side2 A2.out).mono ?_); (case side1 => exact cm_ HR0.out); (case side2 => exact HC0.out); rintro e w6 ⟨rfl, hb⟩; refine ⟨_, rfl, ?_⟩; replace HB := bs_ hb; (try clear hb)) | ((with_reducible refine gl_ 54 rfl ?_); refine goesM_ (some 12) Try.func54 #[.slice A0 l0.length c0] ?_; (with_reducible refine (impl_inputs.calls k _ _ l0 t474 _ ?side1 ?side2 A4.out).mono ?_); (case side1 => exact cm_ (Kd.C_below HR0.out HB.out)); (case side2 => exact HC0.out); rintro e w7 ⟨v475, rfl, ho0, hb⟩; refine ⟨_, rfl, ?_⟩; have HO476 := am_ (Kd.R_lower ho0 (below_size (bq_))); replace HB := bs_ hb; (try clear hb); (try clear ho0); obtain ⟨Ao8, co8, eo8⟩ := Kd.R_slice HO476.out; subst eo8))
  go_loopg [16] k (fun kq v16 w' => ∃ (x16_1 : Int), v16 = .int .i64 x16_1 ∧ Aside0 (impl_CanBe.l0 kq l0 (t474.length : Int) ji5 x16_1 = some (r1, r2, r3)) ∧ Aside0 (kq ≤ k) ∧ Aside0 (Below w.heap.size w w'))
  case atStart => exact ⟨(0), y53_, H', ⟨Nat.le_refl _⟩, ⟨bq_⟩⟩
  case round =>
   clear H'
   try clear c2
   try clear p2
   try clear c3
   try clear c5
   try clear p6
   obtain ⟨x16_1, rfl, HA, HK1, HB⟩ := hrel
   cases gk with
   | zero => exact absurd HA.out (by simp [impl_CanBe.l0])
   | succ k1 =>
    have H := HA.out
    clear HA
    simp only [impl_CanBe.l0] at H
    by_cases c9 : x16_1 < ji5
    ·rw [if_pos c9] at H
     have c9b0 : decide (x16_1 < ji5) = true := decide_eq_true c9
     clear c9
     replace H := Option.bind_eq_some_iff.mp H
     obtain ⟨t477, A100, H⟩ := H
     replace H : ((impl_output.f k1 l0 t477).bind fun t480 => (if t480 = true then (some (true, t477, true)) else (impl_CanBe.l0 k1 l0 (t474.length : Int) ji5 (wrap64 (x16_1 + 1))))) = some (r1, r2, r3) := H
     have A10 := am_ A100
     clear A100
     replace H := Option.bind_eq_some_iff.mp H
     obtain ⟨t480, A110, H⟩ := H
     replace H : (if t480 = true then (some (true, t477, true)) else (impl_CanBe.l0 k1 l0 (t474.length : Int) ji5 (wrap64 (x16_1 + 1)))) = some (r1, r2, r3) := H
     have A11 := am_ A110
     clear A110
     by_cases c12 : t480 = true
     ·subst c12
      have H1 : (some (true, t477, true)) = some (r1, r2, r3) := by rw [if_pos rfl] at H; exact H
      clear H
      have H := H1
      clear H1
      simp only [Option.some.injEq, Prod.mk.injEq] at H
      obtain ⟨rfl, rfl, rfl⟩ := H
      go_wp2_with (first | ((with_reducible refine gl_ 61 rfl ?_); refine goesM_ (some 21) Try.func61 #[.int .i64 (t474.length : Int), .int .i64 x16_1] ?_; (with_reducible refine (impl_model.calls k1 (t474.length : Int) x16_1 t477 _ A10.out).mono ?_); rintro e w13 ⟨v478, rfl, ho0, hb⟩; refine ⟨_, rfl, ?_⟩; have HO479 := am_ (Kd.R_lower ho0 (below_size (bq_))); replace HB := bs_ hb; (try clear hb); (try clear ho0); obtain ⟨Ao14, co14, eo14⟩ := Kd.R_slice HO479.out; subst eo14) | ((with_reducible refine gl_ 62 rfl ?_); refine goesM_ (some 24) Try.func62 #[.slice A0 l0.length c0, .slice Ao14 t477.length co14] ?_; (with_reducible refine (impl_output.calls k1 _ _ l0 _ _ t477 true _ ?side1 ?side2 ?side3 ?side4 A11.out).mono ?_); (case side1 => exact cm_ (Kd.C_below HR0.out HB.out)); (case side2 => exact HC0.out); (case side3 => exact cm_ (Kd.R_reads' HO479.out).2.2); (case side4 => exact (Kd.R_reads' HO479.out).2.1); rintro e w15 ⟨rfl, hb⟩; refine ⟨_, rfl, ?_⟩; replace HO479 := am_ (Kd.R_below (rq_ HO479.out) hb); replace HB := bs_ hb; (try clear hb)))
      go_ret3
      exact ⟨_, by first | rfl | (simp [errW_none, errW_some] <;> rfl) | (simp only [← hji5]; first | rfl | (simp [errW_none, errW_some] <;> rfl)) | (simp [*, errW_none, errW_some] <;> rfl), rq_ HO479.out, bq_⟩
     ·replace c12 := Bool.eq_false_iff.mpr c12
      subst c12
      have H1 : (impl_CanBe.l0 k1 l0 (t474.length : Int) ji5 (wrap64 (x16_1 + 1))) = some (r1, r2, r3) := by rw [if_neg (show ¬ (false = true) by decide)] at H; exact H
      clear H
      have H := H1
      clear H1
      have H' := am_ H
      clear H
      go_wp2_with (first | ((with_reducible refine gl_ 61 rfl ?_); refine goesM_ (some 21) Try.func61 #[.int .i64 (t474.length : Int), .int .i64 x16_1] ?_; (with_reducible refine (impl_model.calls k1 (t474.length : Int) x16_1 t477 _ A10.out).mono ?_); rintro e w16 ⟨v478, rfl, ho0, hb⟩; refine ⟨_, rfl, ?_⟩; have HO479 := am_ (Kd.R_lower ho0 (below_size (bq_))); replace HB := bs_ hb; (try clear hb); (try clear ho0); obtain ⟨Ao17, co17, eo17⟩ := Kd.R_slice HO479.out; subst eo17) | ((with_reducible refine gl_ 62 rfl ?_); refine goesM_ (some 24) Try.func62 #[.slice A0 l0.length c0, .slice Ao17 t477.length co17] ?_; (with_reducible refine (impl_output.calls k1 _ _ l0 _ _ t477 false _ ?side1 ?side2 ?side3 ?side4 A11.out).mono ?_); (case side1 => exact cm_ (Kd.C_below HR0.out HB.out)); (case side2 => exact HC0.out); (case side3 => exact cm_ (Kd.R_reads' HO479.out).2.2); (case side4 => exact (Kd.R_reads' HO479.out).2.1); rintro e w18 ⟨rfl, hb⟩; refine ⟨_, rfl, ?_⟩; replace HO479 := am_ (Kd.R_below (rq_ HO479.out) hb); replace HB := bs_ hb; (try clear hb)))
      go_roundg k1
      case measure => have := HK1.out; omega
      case rel => exact ⟨(wrap64 (x16_1 + 1)), y53_, H', ⟨by have := HK1.out; omega⟩, ⟨bq_⟩⟩
    ·rw [if_neg c9] at H
     have c9b0 : decide (x16_1 < ji5) = false := decide_eq_false c9
     clear c9
     simp only [Option.some.injEq, Prod.mk.injEq] at H
     obtain ⟨rfl, rfl, rfl⟩ := H
     go_wp2
     go_ret3
     exact ⟨_, by first | rfl | (simp [errW_none, errW_some] <;> rfl) | (simp only [← hji5]; first | rfl | (simp [errW_none, errW_some] <;> rfl)) | (simp [*, errW_none, errW_some] <;> rfl), by first | exact Kd.R_nil _ _ _ _ _ | exact Kd.N_nil _ _ _ _ _ | exact Kd.V_nil _ _ _ _ _ | exact Kd.Q_nil _ _ _ _ _ | exact Kd.S_nil _ _ _ _ _, bq_⟩
 ·replace c3 := Bool.eq_false_iff.mpr c3
  subst c3
  have H1 : (some (false, ([] : List Bool), false)) = some (r1, r2, r3) := by rw [if_neg (show ¬ (false = true) by decide)] at H; exact H
  clear H
  have H := H1
  clear H1
  simp only [Option.some.injEq, Prod.mk.injEq] at H
  obtain ⟨rfl, rfl, rfl⟩ := H
  go_enter Try.func25, Try.ntmps25
  go_wp2_with (first | ((with_reducible refine gl_ 34 rfl ?_); refine goesM_ (some 9) Try.func34 #[.slice A0 l0.length c0] ?_; (with_reducible refine (impl_GoodGates.calls k _ _ l0 false _ ?side1 ?side2 A2.out).mono ?_); (case side1 => exact cm_ HR0.out); (case side2 => exact HC0.out); rintro e w19 ⟨rfl, hb⟩; refine ⟨_, rfl, ?_⟩; replace HB := bs_ hb; (try clear hb)))
  go_ret3
  exact ⟨_, by first | rfl | (simp [errW_none, errW_some] <;> rfl) | (simp [*, errW_none, errW_some] <;> rfl), by first | exact Kd.R_nil _ _ _ _ _ | exact Kd.N_nil _ _ _ _ _ | exact Kd.V_nil _ _ _ _ _ | exact Kd.Q_nil _ _ _ _ _ | exact Kd.S_nil _ _ _ _ _, bq_⟩
def impl_learn.l0 : Nat → List Int → List Int → Int → Int → Option (List Int)
 | 0, _, _, _, _ => none
 | k + 1, x3, x6, x7, x8 => if x8 < x7 then (if 0 ≤ x8 then (if x8 < (x6.length : Int) then (if x3.length < 17592186044416 then (impl_learn.l0 k (x3 ++ [wrap64 (-(rd x6 x8))]) x6 x7 (wrap64 (x8 + 1))) else (none)) else (none)) else (none)) else (some x3)
def impl_learn.f (k : Nat) (l0 : List Int) : Option (List Int) := impl_learn.l0 k ([] : List Int) l0 (l0.length : Int) 0
set_option maxHeartbeats 8000000 in
set_option maxRecDepth 100000 in
theorem impl_learn.calls (k : Nat) (A0 : Option Addr) (c0 : Nat) (l0 : List Int) (r : List Int) (w : World) (hr0 : Kd.C (Kd.int .i64) w A0 l0.length l0) (hc0 : l0.length ≤ c0) (h : impl_learn.f k l0 = some r) :
  Calls Try.prog 83 #[.slice A0 l0.length c0] w fun e w' => ∃ v0_ : Value, e = .returned (v0_) ∧ Kd.R (Kd.int .i64) 3 w' w.heap.size (fun _ => True) v0_ r ∧ Below w.heap.size w w' := by
 have HR0 := am_ hr0
 have HC0 := am_ hc0
 clear hr0 hc0
 have HB := am_ (Below.refl w.heap.size w)
 have H : (impl_learn.l0 k ([] : List Int) l0 (l0.length : Int) 0) = some r := h
 clear h
 have H' := am_ H
 clear H
 go_enter Try.func83, Try.ntmps83
 go_wp2
 go_loopg [3, 8] k (fun kq v3 v8 w' => ∃ (x3_1 : List Int) (x8_1 : Int), v8 = .int .i64 x8_1 ∧ Aside0 (impl_learn.l0 kq x3_1 l0 (l0.length : Int) x8_1 = some r) ∧ Aside0 (kq ≤ k) ∧ Aside0 (Kd.R (Kd.int .i64) 3 w' w.heap.size (fun _ => True) v3 x3_1) ∧ Aside0 (Below w.heap.size w w'))
 case atStart => exact ⟨(([] : List Int)), (0), y53_, H', ⟨Nat.le_refl _⟩, ⟨by first | exact Kd.R_nil _ _ _ _ _ | exact Kd.N_nil _ _ _ _ _ | exact Kd.V_nil _ _ _ _ _ | exact Kd.Q_nil _ _ _ _ _ | exact Kd.S_nil _ _ _ _ _⟩, ⟨bq_⟩⟩
 case round =>
  clear H'
  obtain ⟨x3_1, x8_1, rfl, HA, HK1, HO_3, HB⟩ := hrel
  cases gk with
  | zero => exact absurd HA.out (by simp [impl_learn.l0])
  | succ k1 =>
   have H := HA.out
   clear HA
   simp only [impl_learn.l0] at H
   by_cases c2 : x8_1 < (l0.length : Int)
   ·rw [if_pos c2] at H
    have c2b0 : decide (x8_1 < (l0.length : Int)) = true := decide_eq_true c2
    clear c2
    by_cases c3 : 0 ≤ x8_1
    ·rw [if_pos c3] at H
     have c3b0 : decide (0 ≤ x8_1) = true := decide_eq_true c3
     clear c3
     by_cases c4 : x8_1 < (l0.length : Int)
     ·rw [if_pos c4] at H
      have c4b0 : decide (x8_1 < (l0.length : Int)) = true := decide_eq_true c4
      clear c4
      by_cases c5 : x3_1.length < 17592186044416
      ·rw [if_pos c5] at H
       have LMc5 := am_ c5
       clear c5
       obtain ⟨y483, hy483⟩ : ∃ y_ : List Int, y_ = (x3_1 ++ [wrap64 (-(rd l0 x8_1))]) := ⟨_, rfl⟩
       replace H : (impl_learn.l0 k1 y483 l0 (l0.length : Int) (wrap64 (x8_1 + 1))) = some r := by first | (rw [hy483]; with_reducible exact H) | (have H2_ := (Option.bind_some _ _).symm.trans H; rw [hy483]; with_reducible exact H2_) | (have H2_ := (Option.bind_some _ _).symm.trans H; with_reducible exact H2_) | with_reducible exact H | (rw [hy483]; exact H) | exact H
       have Ny483 := am_ hy483
       clear hy483
       have H' := am_ H
       clear H
       have p482 : 0 ≤ (x8_1 : Int) := od_
       have q482 : x8_1 < (l0.length : Int) := od_
       obtain ⟨ad482, e482, hx482_0⟩ := Kd.at_int HR0.out x8_1 p482 q482
       cases e482
       replace hx482_0 := (HB.out.cell (World.block_lt_of_cell? w _ hx482_0)).trans hx482_0
       replace p482 := eq_true p482
       replace q482 := eq_true q482
       go_wp2_with (first | ((with_reducible refine gate_builtin (b := .append) (xs := #[.tmp 12, .tmp 15]) rfl ?_); at_builtin; refine Kd.R_append (Kd.int .i64) (w0 := w) w.heap.size rfl (.tmp 12) (.tmp 15) 43 3 (.int .i64 0) 8 rfl Try.underlying43 info3 rfl (by decide) (by omega) u3 x3_1 (wrap64 (-(rd l0 x8_1))) [.int .i64 (wrap64 (-(rd l0 x8_1)))] (fun _ => True) (fun _ => False) rfl rfl ?aP (fun _ hk => hk.elim) ?aF ?aO ?aB ?aS ?aL ?_; (case aP => exact rfl); (case aB => exact (bq_)); (case aF => exact (fun _ _ => trivial)); (case aO => exact (rq_ HO_3.out)); (case aS => exact (below_size (bq_))); (case aL => have := LMc5.out; omega); intro v484 w6 ho hb hg hat; rw [← Ny483.out] at ho; replace HB := am_ (hb); have HO485 := am_ (ho); clear HO_3; clear ho hb hg hat))
       go_roundg k1
       case measure => have := HK1.out; omega
       case rel => exact ⟨(y483), (wrap64 (x8_1 + 1)), y53_, H', ⟨by have := HK1.out; omega⟩, ⟨rq_ HO485.out⟩, ⟨bq_⟩⟩
      ·rw [if_neg c5] at H
       exact absurd H (by simp)
     ·rw [if_neg c4] at H
      exact absurd H (by simp)
    ·rw [if_neg c3] at H
     exact absurd H (by simp)
   ·rw [if_neg c2] at H
    have c2b0 : decide (x8_1 < (l0.length : Int)) = false := decide_eq_false c2
    clear c2
    obtain rfl := Option.some.inj H
    go_wp2
    go_ret
    exact ⟨_, by first | rfl | (simp [errW_none, errW_some] <;> rfl) | (simp [*, errW_none, errW_some] <;> rfl), rq_ HO_3.out, bq_⟩
end Go.Proofs.Ytgahidilhjijiaa.PGG
