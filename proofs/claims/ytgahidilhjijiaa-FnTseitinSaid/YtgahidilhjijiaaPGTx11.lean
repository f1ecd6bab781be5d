import Derived.Test.YtgahidilhjijiaaPGTx0
import Derived.Test.YtgahidilhjijiaaPGTx1
import Derived.Test.YtgahidilhjijiaaPGTx8
namespace Go.Proofs.Ytgahidilhjijiaa.PGT
open Go.RowKit Go.Proofs.YtgahidilhjijiaaW.PrintWords Go.Proofs.YtgahidilhjijiaaW.PrintLast Go.Proofs.YtgahidilhjijiaaW.PrintMore
attribute [local go_sem] max2_int min2_int max_two min_two max_three min_three max_four min_four   -- for this text's walks alone
set_option linter.unusedVariables false
set_option linter.unusedSimpArgs false
theorem reS_ {P : Program} {md : Region.Mode} {ops : Array Oper} {Q : Exit → Act → World → Prop} {S : World → Prop} (S2 : World → Prop) (hi : ∀ w, S2 w → S w) : ∀ (fuel : Nat) (listed : Array Bool) (a : Act) (w : World), S2 w → wpAnyLast P md ops Q S2 [] fuel listed a w → wpAnyLast P md ops Q S [] fuel listed a w
 | 0, _, _, _, _, h => h
 | fuel + 1, _, _, _, hS, h => ⟨h.1, fun i hm => wpOp_mono (fun a' w' h' => ⟨fun hd _ => hi _ (h'.1 hd hS), reS_ S2 hi fuel _ a' w' (h'.1 (by simp) hS) h'.2⟩) (h.2 i hm)⟩
mutual
def spec_AlwaysSame.j0 : Nat → List (S69) → List (S69) → Bool → Option (Bool × Bool)
 | 0, _, _, _ => none
 | k + 1, x0, x1, x25 => if x25 = true then (some (false, false)) else ((spec_l8Inputs.f k x0).bind fun t542 => (spec_AlwaysSame.l0 k x0 x1 (t542.length : Int) 0))
def spec_AlwaysSame.l0 : Nat → List (S69) → List (S69) → Int → Int → Option (Bool × Bool)
 | 0, _, _, _, _ => none
 | k + 1, x0, x1, x6, x7 => if 0 ≤ (IntKind.u64.wrap (x6)) then (if x7 < (shl .i64 1 (IntKind.u64.wrap (x6))) then ((spec_l4Model.f k x6 x7).bind fun t545 => ((spec_l8Eval.f k x0 t545).bind fun t548 => (if 0 ≤ (wrap64 ((x0.length : Int) - 1)) then (if (wrap64 ((x0.length : Int) - 1)) < (t548.length : Int) then ((spec_l8Eval.f k x1 t545).bind fun t552 => (if 0 ≤ (wrap64 ((x1.length : Int) - 1)) then (if (wrap64 ((x1.length : Int) - 1)) < (t552.length : Int) then (if ((rdOf false t548 (wrap64 ((x0.length : Int) - 1))) != (rdOf false t552 (wrap64 ((x1.length : Int) - 1)))) = true then (some (false, true)) else (spec_AlwaysSame.l0 k x0 x1 x6 (wrap64 (x7 + 1)))) else (none)) else (none))) else (none)) else (none)))) else (some (true, true))) else (none)
end
def spec_AlwaysSame.f (k : Nat) (l0 : List (S69)) (l1 : List (S69)) : Option (Bool × Bool) := (spec_GoodGates.f k l0).bind fun t534 => (if t534 = true then ((spec_GoodGates.f k l1).bind fun t535 => (if t535 = true then ((spec_l8Inputs.f k l0).bind fun t536 => ((spec_l8Inputs.f k l1).bind fun t539 => (spec_AlwaysSame.j0 k l0 l1 ((t536.length : Int) != (t539.length : Int))))) else (spec_AlwaysSame.j0 k l0 l1 true))) else (spec_AlwaysSame.j0 k l0 l1 true))
def spec_AlwaysSame.T8 : Bool × List (List Nat × List Nat) := (true, [([], []), ([], []), ([0, 1], [0, 1]), ([], []), ([3], [3]), ([4], [4]), ([2, 5], [2, 5]), ([6], [6]), ([], []), ([], []), ([8, 9, 2], [8, 9]), ([], []), ([11], [11]), ([12], [12]), ([10, 13], [10, 13]), ([14], [14]), ([7, 15], [7, 15])])
def spec_AlwaysSame.B8 : List Nat := [0, 0, 3, 0, 8, 24, 63, 127, 0, 0, 775, 0, 2048, 6144, 16135, 32519, 65535]
theorem spec_AlwaysSame.tab8 : rtab .any (opsOf Try.f40 8) = spec_AlwaysSame.T8 := by kernel_rfl
theorem spec_AlwaysSame.bits8 : waitsOk spec_AlwaysSame.T8.2 spec_AlwaysSame.B8 = true := by kernel_rfl
set_option maxHeartbeats 8000000 in
set_option maxRecDepth 100000 in
theorem spec_AlwaysSame.calls (k : Nat) (A0 : Option Addr) (c0 : Nat) (l0 : List (S69)) (A1 : Option Addr) (c1 : Nat) (l1 : List (S69)) (r1 : Bool) (r2 : Bool) (w : World) (hr0 : Kd.C k69 w A0 l0.length l0) (hc0 : l0.length ≤ c0) (hr1 : Kd.C k69 w A1 l1.length l1) (hc1 : l1.length ≤ c1) (h : spec_AlwaysSame.f k l0 l1 = some (r1, r2)) :
  Calls Try.prog 40 #[.slice A0 l0.length c0, .slice A1 l1.length c1] w fun e w' => e = .returned (.tuple #[.bool r1, .bool r2]) ∧ Below w.heap.size w w' := by
 have HR0 := am_ hr0
 have HC0 := am_ hc0
 clear hr0 hc0
 have HR1 := am_ hr1
 have HC1 := am_ hc1
 clear hr1 hc1
 have HB := am_ (Below.refl w.heap.size w)
 have H : ((spec_GoodGates.f k l0).bind fun t534 => (if t534 = true then ((spec_GoodGates.f k l1).bind fun t535 => (if t535 = true then ((spec_l8Inputs.f k l0).bind fun t536 => ((spec_l8Inputs.f k l1).bind fun t539 => (spec_AlwaysSame.j0 k l0 l1 ((t536.length : Int) != (t539.length : Int))))) else (spec_AlwaysSame.j0 k l0 l1 true))) else (spec_AlwaysSame.j0 k l0 l1 true))) = some (r1, r2) := h
 clear h
 have HC3 := am_ H
 clear H
 go_enter Try.func40, Try.ntmps40
 go_upto_region 1 with (fail)
 go_cut [25] (fun v25 wc => ∃ (kq : Nat) (x25_2 : Bool), v25 = .bool x25_2 ∧ Aside0 (spec_AlwaysSame.j0 kq l0 l1 x25_2 = some (r1, r2)) ∧ Aside0 (kq ≤ k) ∧ Aside0 (Below w.heap.size w wc))
 case first =>
  have H := HC3.out
  clear HC3
  replace H := Option.bind_eq_some_iff.mp H
  obtain ⟨t534, A40, H⟩ := H
  replace H : (if t534 = true then ((spec_GoodGates.f k l1).bind fun t535 => (if t535 = true then ((spec_l8Inputs.f k l0).bind fun t536 => ((spec_l8Inputs.f k l1).bind fun t539 => (spec_AlwaysSame.j0 k l0 l1 ((t536.length : Int) != (t539.length : Int))))) else (spec_AlwaysSame.j0 k l0 l1 true))) else (spec_AlwaysSame.j0 k l0 l1 true)) = some (r1, r2) := H
  have A4 := am_ A40
  clear A40
  by_cases c5 : t534 = true
  ·subst c5
   have H1 : ((spec_GoodGates.f k l1).bind fun t535 => (if t535 = true then ((spec_l8Inputs.f k l0).bind fun t536 => ((spec_l8Inputs.f k l1).bind fun t539 => (spec_AlwaysSame.j0 k l0 l1 ((t536.length : Int) != (t539.length : Int))))) else (spec_AlwaysSame.j0 k l0 l1 true))) = some (r1, r2) := by rw [if_pos rfl] at H; exact H
   clear H
   have H := H1
   clear H1
   replace H := Option.bind_eq_some_iff.mp H
   obtain ⟨t535, A60, H⟩ := H
   replace H : (if t535 = true then ((spec_l8Inputs.f k l0).bind fun t536 => ((spec_l8Inputs.f k l1).bind fun t539 => (spec_AlwaysSame.j0 k l0 l1 ((t536.length : Int) != (t539.length : Int))))) else (spec_AlwaysSame.j0 k l0 l1 true)) = some (r1, r2) := H
   have A6 := am_ A60
   clear A60
   by_cases c7 : t535 = true
   ·subst c7
    have H1 : ((spec_l8Inputs.f k l0).bind fun t536 => ((spec_l8Inputs.f k l1).bind fun t539 => (spec_AlwaysSame.j0 k l0 l1 ((t536.length : Int) != (t539.length : Int))))) = some (r1, r2) := by rw [if_pos rfl] at H; exact H
    clear H
    have H := H1
    clear H1
    replace H := Option.bind_eq_some_iff.mp H
    obtain ⟨t536, A80, H⟩ := H
    replace H : ((spec_l8Inputs.f k l1).bind fun t539 => (spec_AlwaysSame.j0 k l0 l1 ((t536.length : Int) != (t539.length : Int)))) = some (r1, r2) := H
    have A8 := am_ A80
    clear A80
    replace H := Option.bind_eq_some_iff.mp H
    obtain ⟨t539, A90, H⟩ := H
    replace H : (spec_AlwaysSame.j0 k l0 l1 ((t536.length : Int) != (t539.length : Int))) = some (r1, r2) := H
    have A9 := am_ A90
    clear A90
    have H' := am_ H
    clear H
    go_wp2_with (first | ((with_reducible refine gl_ 41 rfl ?_); refine goesM_ (some 10) Try.func41 #[.slice A0 l0.length c0] ?_; (with_reducible refine (spec_GoodGates.calls k _ _ l0 true _ ?side1 ?side2 A4.out).mono ?_); (case side1 => exact cm_ (Kd.C_below HR0.out HB.out)); (case side2 => exact HC0.out); rintro e w10 ⟨rfl, hb⟩; refine ⟨_, rfl, ?_⟩; replace HB := bs_ hb; (try clear hb)) | (go_at_call 41; (with_reducible refine (spec_GoodGates.calls k _ _ l1 true _ ?side1 ?side2 A6.out).mono ?_); (case side1 => exact cm_ (Kd.C_below HR1.out HB.out)); (case side2 => exact HC1.out); rintro e w11 ⟨rfl, hb⟩; replace HB := bs_ hb; (try clear hb)) | (go_at_call 56; (with_reducible refine (spec_l8Inputs.calls k _ _ l0 t536 _ ?side1 ?side2 A8.out).mono ?_); (case side1 => exact cm_ (Kd.C_below HR0.out HB.out)); (case side2 => exact HC0.out); rintro e w12 ⟨v537, rfl, ho0, hb⟩; have HO538 := am_ (Kd.R_lower ho0 (below_size (bq_))); replace HB := bs_ hb; (try clear hb); (try clear ho0); obtain ⟨Ao13, co13, eo13⟩ := Kd.R_slice HO538.out; subst eo13) | (go_at_call 56; (with_reducible refine (spec_l8Inputs.calls k _ _ l1 t539 _ ?side1 ?side2 A9.out).mono ?_); (case side1 => exact cm_ (Kd.C_below HR1.out HB.out)); (case side2 => exact HC1.out); rintro e w14 ⟨v540, rfl, ho0, hb⟩; have HO541 := am_ (Kd.R_lower (Kd.R_new' ho0 (Kd.R_lt (rq_ HO538.out))) (below_size (bq_))); replace HO538 := am_ (Kd.R_elder' (rq_ HO538.out) (Kd.R_base ho0) hb); replace HB := bs_ hb; (try clear hb); (try clear ho0); obtain ⟨Ao15, co15, eo15⟩ := Kd.R_slice HO541.out; subst eo15))
    go_meet
    case rel => exact ⟨_, (((t536.length : Int) != (t539.length : Int))), y53_, H', ⟨by first | omega | exact Nat.le_refl _⟩, ⟨bq_⟩⟩
   ·replace c7 := Bool.eq_false_iff.mpr c7
    subst c7
    have H1 : (spec_AlwaysSame.j0 k l0 l1 true) = some (r1, r2) := by rw [if_neg (show ¬ (false = true) by decide)] at H; exact H
    clear H
    have H := H1
    clear H1
    have H' := am_ H
    clear H
    go_wp2_with (first | ((with_reducible refine gl_ 41 rfl ?_); refine goesM_ (some 10) Try.func41 #[.slice A0 l0.length c0] ?_; (with_reducible refine (spec_GoodGates.calls k _ _ l0 true _ ?side1 ?side2 A4.out).mono ?_); (case side1 => exact cm_ (Kd.C_below HR0.out HB.out)); (case side2 => exact HC0.out); rintro e w16 ⟨rfl, hb⟩; refine ⟨_, rfl, ?_⟩; replace HB := bs_ hb; (try clear hb)) | (go_at_call 41; (with_reducible refine (spec_GoodGates.calls k _ _ l1 false _ ?side1 ?side2 A6.out).mono ?_); (case side1 => exact cm_ (Kd.C_below HR1.out HB.out)); (case side2 => exact HC1.out); rintro e w17 ⟨rfl, hb⟩; replace HB := bs_ hb; (try clear hb)))
    go_meet
    case rel => exact ⟨_, (true), y53_, H', ⟨by first | omega | exact Nat.le_refl _⟩, ⟨bq_⟩⟩
  ·replace c5 := Bool.eq_false_iff.mpr c5
   subst c5
   have H1 : (spec_AlwaysSame.j0 k l0 l1 true) = some (r1, r2) := by rw [if_neg (show ¬ (false = true) by decide)] at H; exact H
   clear H
   have H := H1
   clear H1
   have H' := am_ H
   clear H
   go_wp2_with (first | ((with_reducible refine gl_ 41 rfl ?_); refine goesM_ (some 10) Try.func41 #[.slice A0 l0.length c0] ?_; (with_reducible refine (spec_GoodGates.calls k _ _ l0 false _ ?side1 ?side2 A4.out).mono ?_); (case side1 => exact cm_ (Kd.C_below HR0.out HB.out)); (case side2 => exact HC0.out); rintro e w18 ⟨rfl, hb⟩; refine ⟨_, rfl, ?_⟩; replace HB := bs_ hb; (try clear hb)))
   go_meet
   case rel => exact ⟨_, (true), y53_, H', ⟨by first | omega | exact Nat.le_refl _⟩, ⟨bq_⟩⟩
 case rest =>
  clear HC3
  try clear c1
  try clear p2
  try clear c4
  try clear c5
  try clear c7
  obtain ⟨kq, x25_2, rfl, HA, HJ2, HB⟩ := hcut
  cases kq with
  | zero => exact absurd HA.out (by simp [spec_AlwaysSame.j0])
  | succ kj2 =>
   have H := HA.out
   clear HA
   simp only [spec_AlwaysSame.j0] at H
   by_cases c19 : x25_2 = true
   ·subst c19
    have H1 : (some (false, false)) = some (r1, r2) := by rw [if_pos rfl] at H; exact H
    clear H
    have H := H1
    clear H1
    simp only [Option.some.injEq, Prod.mk.injEq] at H
    obtain ⟨rfl, rfl⟩ := H
    go_wp2
    go_ret2
    exact ⟨by first | rfl | (simp [errW_none, errW_some] <;> rfl) | (simp [*, errW_none, errW_some] <;> rfl), bq_⟩
   ·replace c19 := Bool.eq_false_iff.mpr c19
    subst c19
    have H1 : ((spec_l8Inputs.f kj2 l0).bind fun t542 => (spec_AlwaysSame.l0 kj2 l0 l1 (t542.length : Int) 0)) = some (r1, r2) := by rw [if_neg (show ¬ (false = true) by decide)] at H; exact H
    clear H
    have H := H1
    clear H1
    replace H := Option.bind_eq_some_iff.mp H
    obtain ⟨t542, A200, H⟩ := H
    replace H : (spec_AlwaysSame.l0 kj2 l0 l1 (t542.length : Int) 0) = some (r1, r2) := H
    have A20 := am_ A200
    clear A200
    have H' := am_ H
    clear H
    go_wp2_with (first | ((with_reducible refine gl_ 56 rfl ?_); refine goesM_ (some 27) Try.func56 #[.slice A0 l0.length c0] ?_; (with_reducible refine (spec_l8Inputs.calls kj2 _ _ l0 t542 _ ?side1 ?side2 A20.out).mono ?_); (case side1 => exact cm_ (Kd.C_below HR0.out HB.out)); (case side2 => exact HC0.out); rintro e w21 ⟨v543, rfl, ho0, hb⟩; refine ⟨_, rfl, ?_⟩; have HO544 := am_ (Kd.R_lower ho0 (below_size (bq_))); replace HB := bs_ hb; (try clear hb); (try clear ho0); obtain ⟨Ao22, co22, eo22⟩ := Kd.R_slice HO544.out; subst eo22))
    go_loopg [7] kj2 (fun kq v7 w' => ∃ (x7_2 : Int), v7 = .int .i64 x7_2 ∧ Aside0 (spec_AlwaysSame.l0 kq l0 l1 (t542.length : Int) x7_2 = some (r1, r2)) ∧ Aside0 (kq ≤ kj2) ∧ Aside0 (Below w.heap.size w w'))
    case atStart => exact ⟨(0), y53_, H', ⟨Nat.le_refl _⟩, ⟨bq_⟩⟩
    case round =>
     clear H'
     try clear c1
     try clear p2
     try clear c4
     try clear c5
     try clear c7
     try clear c19
     try clear p2
     obtain ⟨x7_2, rfl, HA, HK2, HB⟩ := hrel
     cases gk with
     | zero => exact absurd HA.out (by simp [spec_AlwaysSame.l0])
     | succ k2 =>
      have H := HA.out
      clear HA
      simp only [spec_AlwaysSame.l0] at H
      obtain ⟨ji23, hji23⟩ : ∃ j_ : Int, (IntKind.u64.wrap ((t542.length : Int))) = j_ := ⟨_, rfl⟩
      replace H : (if 0 ≤ (ji23) then (if x7_2 < (shl .i64 1 (ji23)) then ((spec_l4Model.f k2 (t542.length : Int) x7_2).bind fun t545 => ((spec_l8Eval.f k2 l0 t545).bind fun t548 => (if 0 ≤ (wrap64 ((l0.length : Int) - 1)) then (if (wrap64 ((l0.length : Int) - 1)) < (t548.length : Int) then ((spec_l8Eval.f k2 l1 t545).bind fun t552 => (if 0 ≤ (wrap64 ((l1.length : Int) - 1)) then (if (wrap64 ((l1.length : Int) - 1)) < (t552.length : Int) then (if ((rdOf false t548 (wrap64 ((l0.length : Int) - 1))) != (rdOf false t552 (wrap64 ((l1.length : Int) - 1)))) = true then (some (false, true)) else (spec_AlwaysSame.l0 k2 l0 l1 (t542.length : Int) (wrap64 (x7_2 + 1)))) else (none)) else (none))) else (none)) else (none)))) else (some (true, true))) else (none)) = some (r1, r2) := by first | (rw [hji23] at H; exact H) | (simp only [hji23] at H ⊢; exact H)
      by_cases c24 : 0 ≤ (ji23)
      ·rw [if_pos c24] at H
       have c24b0 := eq_true c24
       have c24b1 : decide (0 ≤ (ji23)) = true := decide_eq_true c24
       clear c24
       obtain ⟨ji25, hji25⟩ : ∃ j_ : Int, (shl .i64 1 (ji23)) = j_ := ⟨_, rfl⟩
       replace H : (if x7_2 < (ji25) then ((spec_l4Model.f k2 (t542.length : Int) x7_2).bind fun t545 => ((spec_l8Eval.f k2 l0 t545).bind fun t548 => (if 0 ≤ (wrap64 ((l0.length : Int) - 1)) then (if (wrap64 ((l0.length : Int) - 1)) < (t548.length : Int) then ((spec_l8Eval.f k2 l1 t545).bind fun t552 => (if 0 ≤ (wrap64 ((l1.length : Int) - 1)) then (if (wrap64 ((l1.length : Int) - 1)) < (t552.length : Int) then (if ((rdOf false t548 (wrap64 ((l0.length : Int) - 1))) != (rdOf false t552 (wrap64 ((l1.length : Int) - 1)))) = true then (some (false, true)) else (spec_AlwaysSame.l0 k2 l0 l1 (t542.length : Int) (wrap64 (x7_2 + 1)))) else (none)) else (none))) else (none)) else (none)))) else (some (true, true))) = some (r1, r2) := by first | (rw [hji25] at H; exact H) | (simp only [hji25] at H ⊢; exact H)
       have hji25_ : (IntKind.i64.wrap (1 * 2 ^ min (ji23).toNat 64)) = ji25 := hji25
       have hji25z : (ji23) ≤ 64 → (IntKind.i64.wrap (1 * 2 ^ (ji23).toNat)) = ji25 := shl_small hji25
       have hji25u : (IntKind.i64.wrap (2 ^ min (ji23).toNat 64)) = ji25 := by have h_ := hji25_; rw [Int.one_mul] at h_; exact h_
       have hji25v : (ji23) ≤ 64 → (IntKind.i64.wrap (2 ^ (ji23).toNat)) = ji25 := fun hle_ => by have h_ := hji25z hle_; rw [Int.one_mul] at h_; exact h_
       have hji25y : (wrap64 (1 * 2 ^ min (ji23).toNat 64)) = ji25 := (i64_w _).symm.trans hji25_
       have hji25x : (ji23) ≤ 64 → (wrap64 (1 * 2 ^ (ji23).toNat)) = ji25 := fun h_ => (i64_w _).symm.trans (hji25z h_)
       by_cases c26 : x7_2 < (ji25)
       ·rw [if_pos c26] at H
        have c26b0 : decide (x7_2 < (ji25)) = true := decide_eq_true c26
        clear c26
        replace H := Option.bind_eq_some_iff.mp H
        obtain ⟨t545, A270, H⟩ := H
        replace H : ((spec_l8Eval.f k2 l0 t545).bind fun t548 => (if 0 ≤ (wrap64 ((l0.length : Int) - 1)) then (if (wrap64 ((l0.length : Int) - 1)) < (t548.length : Int) then ((spec_l8Eval.f k2 l1 t545).bind fun t552 => (if 0 ≤ (wrap64 ((l1.length : Int) - 1)) then (if (wrap64 ((l1.length : Int) - 1)) < (t552.length : Int) then (if ((rdOf false t548 (wrap64 ((l0.length : Int) - 1))) != (rdOf false t552 (wrap64 ((l1.length : Int) - 1)))) = true then (some (false, true)) else (spec_AlwaysSame.l0 k2 l0 l1 (t542.length : Int) (wrap64 (x7_2 + 1)))) else (none)) else (none))) else (none)) else (none))) = some (r1, r2) := H
        have A27 := am_ A270
        clear A270
        replace H := Option.bind_eq_some_iff.mp H
        obtain ⟨t548, A280, H⟩ := H
        replace H : (if 0 ≤ (wrap64 ((l0.length : Int) - 1)) then (if (wrap64 ((l0.length : Int) - 1)) < (t548.length : Int) then ((spec_l8Eval.f k2 l1 t545).bind fun t552 => (if 0 ≤ (wrap64 ((l1.length : Int) - 1)) then (if (wrap64 ((l1.length : Int) - 1)) < (t552.length : Int) then (if ((rdOf false t548 (wrap64 ((l0.length : Int) - 1))) != (rdOf false t552 (wrap64 ((l1.length : Int) - 1)))) = true then (some (false, true)) else (spec_AlwaysSame.l0 k2 l0 l1 (t542.length : Int) (wrap64 (x7_2 + 1)))) else (none)) else (none))) else (none)) else (none)) = some (r1, r2) := H
        have A28 := am_ A280
        clear A280
        obtain ⟨ji29, hji29⟩ : ∃ j_ : Int, (wrap64 ((l0.length : Int) - 1)) = j_ := ⟨_, rfl⟩
        replace H : (if 0 ≤ (ji29) then (if (ji29) < (t548.length : Int) then ((spec_l8Eval.f k2 l1 t545).bind fun t552 => (if 0 ≤ (wrap64 ((l1.length : Int) - 1)) then (if (wrap64 ((l1.length : Int) - 1)) < (t552.length : Int) then (if ((rdOf false t548 (ji29)) != (rdOf false t552 (wrap64 ((l1.length : Int) - 1)))) = true then (some (false, true)) else (spec_AlwaysSame.l0 k2 l0 l1 (t542.length : Int) (wrap64 (x7_2 + 1)))) else (none)) else (none))) else (none)) else (none)) = some (r1, r2) := by first | (rw [hji29] at H; exact H) | (simp only [hji29] at H ⊢; exact H)
        (try rw [hji29] at A27)
        (try rw [hji29] at A28)
        have hji29w : (IntKind.i64.wrap ((l0.length : Int) - 1)) = ji29 := (i64_w _).trans hji29
        by_cases c30 : 0 ≤ (ji29)
        ·rw [if_pos c30] at H
         have c30b0 : decide (0 ≤ (ji29)) = true := decide_eq_true c30
         clear c30
         by_cases c31 : (ji29) < (t548.length : Int)
         ·rw [if_pos c31] at H
          have c31b0 : decide ((ji29) < (t548.length : Int)) = true := decide_eq_true c31
          clear c31
          replace H := Option.bind_eq_some_iff.mp H
          obtain ⟨t552, A320, H⟩ := H
          replace H : (if 0 ≤ (wrap64 ((l1.length : Int) - 1)) then (if (wrap64 ((l1.length : Int) - 1)) < (t552.length : Int) then (if ((rdOf false t548 (ji29)) != (rdOf false t552 (wrap64 ((l1.length : Int) - 1)))) = true then (some (false, true)) else (spec_AlwaysSame.l0 k2 l0 l1 (t542.length : Int) (wrap64 (x7_2 + 1)))) else (none)) else (none)) = some (r1, r2) := H
          have A32 := am_ A320
          clear A320
          obtain ⟨ji33, hji33⟩ : ∃ j_ : Int, (wrap64 ((l1.length : Int) - 1)) = j_ := ⟨_, rfl⟩
          replace H : (if 0 ≤ (ji33) then (if (ji33) < (t552.length : Int) then (if ((rdOf false t548 (ji29)) != (rdOf false t552 (ji33))) = true then (some (false, true)) else (spec_AlwaysSame.l0 k2 l0 l1 (t542.length : Int) (wrap64 (x7_2 + 1)))) else (none)) else (none)) = some (r1, r2) := by first | (rw [hji33] at H; exact H) | (simp only [hji33] at H ⊢; exact H)
          (try rw [hji33] at A27)
          (try rw [hji33] at A28)
          (try rw [hji33] at A32)
          have hji33w : (IntKind.i64.wrap ((l1.length : Int) - 1)) = ji33 := (i64_w _).trans hji33
          by_cases c34 : 0 ≤ (ji33)
          ·rw [if_pos c34] at H
           have c34b0 : decide (0 ≤ (ji33)) = true := decide_eq_true c34
           clear c34
           by_cases c35 : (ji33) < (t552.length : Int)
           ·rw [if_pos c35] at H
            have c35b0 : decide ((ji33) < (t552.length : Int)) = true := decide_eq_true c35
            clear c35
            by_cases c36 : ((rdOf false t548 (ji29)) != (rdOf false t552 (ji33))) = true
            ·rw [if_pos c36] at H
             have c36b0 : ((rdOf false t548 (ji29)) != (rdOf false t552 (ji33))) = true := c36
             (try (have c36b1 : decide ((rdOf false t548 (ji29)) = (rdOf false t552 (ji33))) = false := by simpa using c36))
             (try (have c36b2 : ((rdOf false t548 (ji29)) == (rdOf false t552 (ji33))) = false := by simpa using c36))
             (try (have c36b3 : ¬ ((rdOf false t548 (ji29)) = (rdOf false t552 (ji33))) := by simpa using c36))
             clear c36
             simp only [Option.some.injEq, Prod.mk.injEq] at H
             obtain ⟨rfl, rfl⟩ := H
             try go_wp2_with (first | ((with_reducible refine gl_ 52 rfl ?_); refine goesM_ (some 38) Try.func52 #[.int .i64 (t542.length : Int), .int .i64 x7_2] ?_; (with_reducible refine (spec_l4Model.calls k2 (t542.length : Int) x7_2 t545 _ A27.out).mono ?_); rintro e w37 ⟨v546, rfl, ho0, hb⟩; refine ⟨_, rfl, ?_⟩; have HO547 := am_ (Kd.R_lower ho0 (below_size (bq_))); replace HB := bs_ hb; (try clear hb); (try clear ho0)))
             replace HO547 := am_ (Kd.R_drew HO547.out)
             replace HB := am_ (below_drew1 HB.out)
             obtain ⟨Ao39, co39, eo39⟩ := Kd.R_slice HO547.out
             (first | subst eo39 | (injection eo39 with f1_ f2_ f3_; have f4_ := f1_.symm; have f5_ := f3_.symm; clear f1_ f2_ f3_; subst f4_; subst f5_))
             refine start_ (n := 17) (S := fun _ => True) (ds := []) #[false, false, false, false, false, false, false, false, false, false, false, false, false, false, false, false, false] (by kernel_rfl) rfl rfl trivial (fun hHeld => ?_); refine with_tabW spec_AlwaysSame.tab8 spec_AlwaysSame.bits8 (fun HT_ HW_ => ?_)
             generalize w37.drew = w38 at HO547 HB ⊢
             refine pure_ (i := 0) (N := some 39) (v := ?_) (a' := ?_) #[true, false, false, false, false, false, false, false, false, false, false, false, false, false, false, false, false] rfl rfl (any_of HT_.out (by kernel_rfl)) (fun _ _ _ h => h) (Or.inl ⟨by rfl, ?_⟩) ?_ ?_
             rotate_left
             ·intro w'
              go_simp
              with_reducible rfl
             rotate_left
             ·simp only [Act.put, List.setIfInBounds_toArray, List.set_cons_zero, List.set_cons_succ, i64_w, i32_w]
              rfl
             refine pure_ (i := 1) (N := some 40) (v := ?_) (a' := ?_) #[true, true, false, false, false, false, false, false, false, false, false, false, false, false, false, false, false] rfl rfl (any_of HT_.out (by kernel_rfl)) (fun _ _ _ h => h) (Or.inl ⟨by rfl, ?_⟩) ?_ ?_
             rotate_left
             ·intro w'
              go_simp
              with_reducible rfl
             rotate_left
             ·simp only [Act.put, List.setIfInBounds_toArray, List.set_cons_zero, List.set_cons_succ, i64_w, i32_w]
              rfl
             refine pure_ (i := 3) (N := some 42) (v := ?_) (a' := ?_) #[true, true, false, true, false, false, false, false, false, false, false, false, false, false, false, false, false] rfl rfl (any_of HT_.out (by kernel_rfl)) (fun _ _ _ h => h) (Or.inl ⟨by rfl, ?_⟩) ?_ ?_
             rotate_left
             ·intro w'
              go_simp
              with_reducible rfl
             rotate_left
             ·simp only [Act.put, List.setIfInBounds_toArray, List.set_cons_zero, List.set_cons_succ, i64_w, i32_w]
              rfl
             refine pure_ (i := 4) (N := some 43) (v := ?_) (a' := ?_) #[true, true, false, true, true, false, false, false, false, false, false, false, false, false, false, false, false] rfl rfl (any_of HT_.out (by kernel_rfl)) (fun _ _ _ h => h) (Or.inl ⟨by rfl, ?_⟩) ?_ ?_
             rotate_left
             ·intro w'
              go_simp
              with_reducible rfl
             rotate_left
             ·simp only [Act.put, List.setIfInBounds_toArray, List.set_cons_zero, List.set_cons_succ, i64_w, i32_w]
              rfl
             refine pure_ (i := 5) (N := some 44) (v := ?_) (a' := ?_) #[true, true, false, true, true, true, false, false, false, false, false, false, false, false, false, false, false] rfl rfl (any_of HT_.out (by kernel_rfl)) (fun _ _ _ h => h) (Or.inl ⟨by rfl, ?_⟩) ?_ ?_
             rotate_left
             ·intro w'
              go_simp
              with_reducible rfl
             rotate_left
             ·simp only [Act.put, List.setIfInBounds_toArray, List.set_cons_zero, List.set_cons_succ, i64_w, i32_w]
              rfl
             refine pure_ (i := 8) (N := some 47) (v := ?_) (a' := ?_) #[true, true, false, true, true, true, false, false, true, false, false, false, false, false, false, false, false] rfl rfl (any_of HT_.out (by kernel_rfl)) (fun _ _ _ h => h) (Or.inl ⟨by rfl, ?_⟩) ?_ ?_
             rotate_left
             ·intro w'
              go_simp
              with_reducible rfl
             rotate_left
             ·simp only [Act.put, List.setIfInBounds_toArray, List.set_cons_zero, List.set_cons_succ, i64_w, i32_w]
              rfl
             refine pure_ (i := 9) (N := some 48) (v := ?_) (a' := ?_) #[true, true, false, true, true, true, false, false, true, true, false, false, false, false, false, false, false] rfl rfl (any_of HT_.out (by kernel_rfl)) (fun _ _ _ h => h) (Or.inl ⟨by rfl, ?_⟩) ?_ ?_
             rotate_left
             ·intro w'
              go_simp
              with_reducible rfl
             rotate_left
             ·simp only [Act.put, List.setIfInBounds_toArray, List.set_cons_zero, List.set_cons_succ, i64_w, i32_w]
              rfl
             refine pure_ (i := 11) (N := some 50) (v := ?_) (a' := ?_) #[true, true, false, true, true, true, false, false, true, true, false, true, false, false, false, false, false] rfl rfl (any_of HT_.out (by kernel_rfl)) (fun _ _ _ h => h) (Or.inl ⟨by rfl, ?_⟩) ?_ ?_
             rotate_left
             ·intro w'
              go_simp
              with_reducible rfl
             rotate_left
             ·simp only [Act.put, List.setIfInBounds_toArray, List.set_cons_zero, List.set_cons_succ, i64_w, i32_w]
              rfl
             refine pure_ (i := 12) (N := some 51) (v := ?_) (a' := ?_) #[true, true, false, true, true, true, false, false, true, true, false, true, true, false, false, false, false] rfl rfl (any_of HT_.out (by kernel_rfl)) (fun _ _ _ h => h) (Or.inl ⟨by rfl, ?_⟩) ?_ ?_
             rotate_left
             ·intro w'
              go_simp
              with_reducible rfl
             rotate_left
             ·simp only [Act.put, List.setIfInBounds_toArray, List.set_cons_zero, List.set_cons_succ, i64_w, i32_w]
              rfl
             refine pure_ (i := 13) (N := some 52) (v := ?_) (a' := ?_) #[true, true, false, true, true, true, false, false, true, true, false, true, true, true, false, false, false] rfl rfl (any_of HT_.out (by kernel_rfl)) (fun _ _ _ h => h) (Or.inl ⟨by rfl, ?_⟩) ?_ ?_
             rotate_left
             ·intro w'
              go_simp
              with_reducible rfl
             rotate_left
             ·simp only [Act.put, List.setIfInBounds_toArray, List.set_cons_zero, List.set_cons_succ, i64_w, i32_w]
              rfl
             refine one_ (i := 2) (N := some 41) #[true, true, true, true, true, true, false, false, true, true, false, true, true, true, false, false, false] rfl rfl (one_of HT_.out (by kernel_rfl)) (by decide) (fun K hK => ?_)
             refine goes_ Try.func57 (by kernel_rfl) rfl #[.slice A0 l0.length c0, .slice Ao39 t545.length co39] (by rfl) rfl rfl y18_ ?_
             with_reducible refine (spec_l8Eval.calls k2 _ _ l0 _ _ t545 t548 _ ?side1 ?side2 ?side3 ?side4 A28.out).mono ?_
             (case side1 => exact cm_ (Kd.C_below HR0.out HB.out))
             (case side2 => exact HC0.out)
             (case side3 => exact cm_ (Kd.R_reads' HO547.out).2.2)
             (case side4 => exact (Kd.R_reads' HO547.out).2.1)
             rintro e w40 ⟨v549, rfl, ho0, hb⟩
             refine ⟨_, rfl, ?_⟩
             have n0_ := am_ (Kd.R_elder' (rq_ HO547.out) (Kd.R_base ho0) hb)
             have n1_ := am_ (Kd.R_lower (Kd.R_new' ho0 (Kd.R_lt (rq_ HO547.out))) (below_size (bq_)))
             have n2_ := bs_ hb
             clear HO547 HB
             have HO547 := n0_
             have HO550 := n1_
             have HB := n2_
             clear n0_ n1_ n2_
             (try clear hb)
             (try clear hb2)
             (try clear hk)
             (try clear hi)
             (try clear ho0)
             obtain ⟨Ao41, co41, eo41⟩ := Kd.R_slice HO550.out
             (first | subst eo41 | (injection eo41 with f1_ f2_ f3_; have f4_ := f1_.symm; have f5_ := f3_.symm; clear f1_ f2_ f3_; subst f4_; subst f5_))
             have p551 : 0 ≤ ((ji29) : Int) := od_
             have q551 : (ji29) < (t548.length : Int) := od_
             obtain ⟨ad551, e551, hx551_0⟩ := Kd.at_bool (Kd.R_reads' HO550.out).2.2 (ji29) p551 q551
             cases e551
             replace p551 := eq_true p551
             replace q551 := eq_true q551
             refine hK.out _ _ trivial (fun hHeld => ?_)
             clear hK K
             refine reS_ (fun w' => w'.cell? (ad551.add ((ji29)).toNat) = some (.bool (rdOf false t548 (ji29)))) (fun _ _ => trivial) _ _ _ _ hx551_0 ?_
             replace hHeld := hx551_0
             refine norm_ (a' := ?_) ?_ ?_
             rotate_left
             ·show Act.put _ (some 41) _ = _
              simp only [Act.put, List.setIfInBounds_toArray, List.set_cons_zero, List.set_cons_succ, i64_w, i32_w]
              rfl
             refine pure_ (i := 6) (N := some 45) (v := ?_) (a' := ?_) #[true, true, true, true, true, true, true, false, true, true, false, true, true, true, false, false, false] rfl rfl (any_of HT_.out (by kernel_rfl)) (fun _ _ _ h => h) (Or.inl ⟨by rfl, ?_⟩) ?_ ?_
             rotate_left
             ·intro w'
              go_simp
              with_reducible rfl
             rotate_left
             ·simp only [Act.put, List.setIfInBounds_toArray, List.set_cons_zero, List.set_cons_succ, i64_w, i32_w]
              rfl
             refine take_ (i := 7) (N := some 46) (v := ?_) (a' := ?_) #[true, true, true, true, true, true, true, true, true, true, false, true, true, true, false, false, false] rfl rfl (take_ofW HT_.out HW_.out (by kernel_rfl)) (fun _ _ _ h => h) (Or.inl ⟨by rfl, ?_⟩) hHeld ?_ ?_
             rotate_left
             ·rintro w' s0
              go_simp
              with_reducible rfl
             rotate_left
             ·simp only [Act.put, List.setIfInBounds_toArray, List.set_cons_zero, List.set_cons_succ, i64_w, i32_w]
              rfl
             refine one_ (i := 10) (N := some 49) #[true, true, true, true, true, true, true, true, true, true, true, true, true, true, false, false, false] rfl rfl (one_of HT_.out (by kernel_rfl)) (by decide) (fun K hK => ?_)
             refine goes_ Try.func57 (by kernel_rfl) rfl #[.slice A1 l1.length c1, .slice Ao39 t545.length co39] (by rfl) rfl rfl y18_ ?_
             with_reducible refine (spec_l8Eval.calls k2 _ _ l1 _ _ t545 t552 _ ?side1 ?side2 ?side3 ?side4 A32.out).mono ?_
             (case side1 => exact cm_ (Kd.C_below HR1.out HB.out))
             (case side2 => exact HC1.out)
             (case side3 => exact cm_ (Kd.R_reads' HO547.out).2.2)
             (case side4 => exact (Kd.R_reads' HO547.out).2.1)
             rintro e w42 ⟨v553, rfl, ho0, hb⟩
             have HS0_ := (hb.cell (World.block_lt_of_cell? _ _ (hHeld))).trans (hHeld)
             refine ⟨_, rfl, ?_⟩
             have n0_ := am_ (Kd.R_elder' (rq_ HO547.out) (Kd.R_base ho0) hb)
             have n1_ := am_ (Kd.R_elder' (rq_ HO550.out) (Kd.R_base ho0) hb)
             have n2_ := am_ (Kd.R_lower (Kd.R_new' (Kd.R_new' ho0 (Kd.R_lt (rq_ HO547.out))) (Kd.R_lt (rq_ HO550.out))) (below_size (bq_)))
             have n3_ := bs_ hb
             clear HO547 HO550 HB
             have HO547 := n0_
             have HO550 := n1_
             have HO554 := n2_
             have HB := n3_
             clear n0_ n1_ n2_ n3_
             (try clear hb)
             (try clear hb2)
             (try clear hk)
             (try clear hi)
             (try clear ho0)
             obtain ⟨Ao43, co43, eo43⟩ := Kd.R_slice HO554.out
             (first | subst eo43 | (injection eo43 with f1_ f2_ f3_; have f4_ := f1_.symm; have f5_ := f3_.symm; clear f1_ f2_ f3_; subst f4_; subst f5_))
             have p555 : 0 ≤ ((ji33) : Int) := od_
             have q555 : (ji33) < (t552.length : Int) := od_
             obtain ⟨ad555, e555, hx555_0⟩ := Kd.at_bool (Kd.R_reads' HO554.out).2.2 (ji33) p555 q555
             cases e555
             replace p555 := eq_true p555
             replace q555 := eq_true q555
             refine hK.out _ _ HS0_ (fun hHeld => ?_)
             clear hK K
             refine reS_ (fun w' => (w'.cell? (ad551.add ((ji29)).toNat) = some (.bool (rdOf false t548 (ji29)))) ∧ (w'.cell? (ad555.add ((ji33)).toNat) = some (.bool (rdOf false t552 (ji33))))) (fun _ h => h.1) _ _ _ _ ⟨hHeld, hx555_0⟩ ?_
             replace hHeld := And.intro hHeld hx555_0
             refine norm_ (a' := ?_) ?_ ?_
             rotate_left
             ·show Act.put _ (some 49) _ = _
              simp only [Act.put, List.setIfInBounds_toArray, List.set_cons_zero, List.set_cons_succ, i64_w, i32_w]
              rfl
             refine pure_ (i := 14) (N := some 53) (v := ?_) (a' := ?_) #[true, true, true, true, true, true, true, true, true, true, true, true, true, true, true, false, false] rfl rfl (any_of HT_.out (by kernel_rfl)) (fun _ _ _ h => h) (Or.inl ⟨by rfl, ?_⟩) ?_ ?_
             rotate_left
             ·intro w'
              go_simp
              with_reducible rfl
             rotate_left
             ·simp only [Act.put, List.setIfInBounds_toArray, List.set_cons_zero, List.set_cons_succ, i64_w, i32_w]
              rfl
             refine take_ (i := 15) (N := some 54) (v := ?_) (a' := ?_) #[true, true, true, true, true, true, true, true, true, true, true, true, true, true, true, true, false] rfl rfl (take_ofW HT_.out HW_.out (by kernel_rfl)) (fun _ _ _ h => h) (Or.inl ⟨by rfl, ?_⟩) hHeld ?_ ?_
             rotate_left
             ·rintro w' ⟨s0, s1⟩
              go_simp
              with_reducible rfl
             rotate_left
             ·simp only [Act.put, List.setIfInBounds_toArray, List.set_cons_zero, List.set_cons_succ, i64_w, i32_w]
              rfl
             refine pure_ (i := 16) (N := some 55) (v := ?_) (a' := ?_) #[true, true, true, true, true, true, true, true, true, true, true, true, true, true, true, true, true] rfl rfl (any_of HT_.out (by kernel_rfl)) (fun _ _ _ h => h) (Or.inl ⟨by rfl, ?_⟩) ?_ ?_
             rotate_left
             ·intro w'
              go_simp
              with_reducible rfl
             rotate_left
             ·simp only [Act.put, List.setIfInBounds_toArray, List.set_cons_zero, List.set_cons_succ, i64_w, i32_w]
              rfl
             refine done_ (done_of HT_.out (by kernel_rfl)) ?_
             try go_wp2
             go_ret2
             exact ⟨by first | rfl | (simp [errW_none, errW_some] <;> rfl) | (simp only [← hji23, ← hji25, ← hji29, ← hji33]; first | rfl | (simp [errW_none, errW_some] <;> rfl)) | (simp [*, errW_none, errW_some] <;> rfl), bq_⟩
            ·rw [if_neg c36] at H
             have c36b0 : ((rdOf false t548 (ji29)) != (rdOf false t552 (ji33))) = false := by simpa using c36
             (try (have c36b1 : decide ((rdOf false t548 (ji29)) = (rdOf false t552 (ji33))) = true := by simpa using c36))
             (try (have c36b2 : ((rdOf false t548 (ji29)) == (rdOf false t552 (ji33))) = true := by simpa using c36))
             clear c36
             have H' := am_ H
             clear H
             try go_wp2_with (first | ((with_reducible refine gl_ 52 rfl ?_); refine goesM_ (some 38) Try.func52 #[.int .i64 (t542.length : Int), .int .i64 x7_2] ?_; (with_reducible refine (spec_l4Model.calls k2 (t542.length : Int) x7_2 t545 _ A27.out).mono ?_); rintro e w44 ⟨v546, rfl, ho0, hb⟩; refine ⟨_, rfl, ?_⟩; have HO547 := am_ (Kd.R_lower ho0 (below_size (bq_))); replace HB := bs_ hb; (try clear hb); (try clear ho0)))
             replace HO547 := am_ (Kd.R_drew HO547.out)
             replace HB := am_ (below_drew1 HB.out)
             obtain ⟨Ao46, co46, eo46⟩ := Kd.R_slice HO547.out
             (first | subst eo46 | (injection eo46 with f1_ f2_ f3_; have f4_ := f1_.symm; have f5_ := f3_.symm; clear f1_ f2_ f3_; subst f4_; subst f5_))
             refine start_ (n := 17) (S := fun _ => True) (ds := []) #[false, false, false, false, false, false, false, false, false, false, false, false, false, false, false, false, false] (by kernel_rfl) rfl rfl trivial (fun hHeld => ?_); refine with_tabW spec_AlwaysSame.tab8 spec_AlwaysSame.bits8 (fun HT_ HW_ => ?_)
             generalize w44.drew = w45 at HO547 HB ⊢
             refine pure_ (i := 0) (N := some 39) (v := ?_) (a' := ?_) #[true, false, false, false, false, false, false, false, false, false, false, false, false, false, false, false, false] rfl rfl (any_of HT_.out (by kernel_rfl)) (fun _ _ _ h => h) (Or.inl ⟨by rfl, ?_⟩) ?_ ?_
             rotate_left
             ·intro w'
              go_simp
              with_reducible rfl
             rotate_left
             ·simp only [Act.put, List.setIfInBounds_toArray, List.set_cons_zero, List.set_cons_succ, i64_w, i32_w]
              rfl
             refine pure_ (i := 1) (N := some 40) (v := ?_) (a' := ?_) #[true, true, false, false, false, false, false, false, false, false, false, false, false, false, false, false, false] rfl rfl (any_of HT_.out (by kernel_rfl)) (fun _ _ _ h => h) (Or.inl ⟨by rfl, ?_⟩) ?_ ?_
             rotate_left
             ·intro w'
              go_simp
              with_reducible rfl
             rotate_left
             ·simp only [Act.put, List.setIfInBounds_toArray, List.set_cons_zero, List.set_cons_succ, i64_w, i32_w]
              rfl
             refine pure_ (i := 3) (N := some 42) (v := ?_) (a' := ?_) #[true, true, false, true, false, false, false, false, false, false, false, false, false, false, false, false, false] rfl rfl (any_of HT_.out (by kernel_rfl)) (fun _ _ _ h => h) (Or.inl ⟨by rfl, ?_⟩) ?_ ?_
             rotate_left
             ·intro w'
              go_simp
              with_reducible rfl
             rotate_left
             ·simp only [Act.put, List.setIfInBounds_toArray, List.set_cons_zero, List.set_cons_succ, i64_w, i32_w]
              rfl
             refine pure_ (i := 4) (N := some 43) (v := ?_) (a' := ?_) #[true, true, false, true, true, false, false, false, false, false, false, false, false, false, false, false, false] rfl rfl (any_of HT_.out (by kernel_rfl)) (fun _ _ _ h => h) (Or.inl ⟨by rfl, ?_⟩) ?_ ?_
             rotate_left
             ·intro w'
              go_simp
              with_reducible rfl
             rotate_left
             ·simp only [Act.put, List.setIfInBounds_toArray, List.set_cons_zero, List.set_cons_succ, i64_w, i32_w]
              rfl
             refine pure_ (i := 5) (N := some 44) (v := ?_) (a' := ?_) #[true, true, false, true, true, true, false, false, false, false, false, false, false, false, false, false, false] rfl rfl (any_of HT_.out (by kernel_rfl)) (fun _ _ _ h => h) (Or.inl ⟨by rfl, ?_⟩) ?_ ?_
             rotate_left
             ·intro w'
              go_simp
              with_reducible rfl
             rotate_left
             ·simp only [Act.put, List.setIfInBounds_toArray, List.set_cons_zero, List.set_cons_succ, i64_w, i32_w]
              rfl
             refine pure_ (i := 8) (N := some 47) (v := ?_) (a' := ?_) #[true, true, false, true, true, true, false, false, true, false, false, false, false, false, false, false, false] rfl rfl (any_of HT_.out (by kernel_rfl)) (fun _ _ _ h => h) (Or.inl ⟨by rfl, ?_⟩) ?_ ?_
             rotate_left
             ·intro w'
              go_simp
              with_reducible rfl
             rotate_left
             ·simp only [Act.put, List.setIfInBounds_toArray, List.set_cons_zero, List.set_cons_succ, i64_w, i32_w]
              rfl
             refine pure_ (i := 9) (N := some 48) (v := ?_) (a' := ?_) #[true, true, false, true, true, true, false, false, true, true, false, false, false, false, false, false, false] rfl rfl (any_of HT_.out (by kernel_rfl)) (fun _ _ _ h => h) (Or.inl ⟨by rfl, ?_⟩) ?_ ?_
             rotate_left
             ·intro w'
              go_simp
              with_reducible rfl
             rotate_left
             ·simp only [Act.put, List.setIfInBounds_toArray, List.set_cons_zero, List.set_cons_succ, i64_w, i32_w]
              rfl
             refine pure_ (i := 11) (N := some 50) (v := ?_) (a' := ?_) #[true, true, false, true, true, true, false, false, true, true, false, true, false, false, false, false, false] rfl rfl (any_of HT_.out (by kernel_rfl)) (fun _ _ _ h => h) (Or.inl ⟨by rfl, ?_⟩) ?_ ?_
             rotate_left
             ·intro w'
              go_simp
              with_reducible rfl
             rotate_left
             ·simp only [Act.put, List.setIfInBounds_toArray, List.set_cons_zero, List.set_cons_succ, i64_w, i32_w]
              rfl
             refine pure_ (i := 12) (N := some 51) (v := ?_) (a' := ?_) #[true, true, false, true, true, true, false, false, true, true, false, true, true, false, false, false, false] rfl rfl (any_of HT_.out (by kernel_rfl)) (fun _ _ _ h => h) (Or.inl ⟨by rfl, ?_⟩) ?_ ?_
             rotate_left
             ·intro w'
              go_simp
              with_reducible rfl
             rotate_left
             ·simp only [Act.put, List.setIfInBounds_toArray, List.set_cons_zero, List.set_cons_succ, i64_w, i32_w]
              rfl
             refine pure_ (i := 13) (N := some 52) (v := ?_) (a' := ?_) #[true, true, false, true, true, true, false, false, true, true, false, true, true, true, false, false, false] rfl rfl (any_of HT_.out (by kernel_rfl)) (fun _ _ _ h => h) (Or.inl ⟨by rfl, ?_⟩) ?_ ?_
             rotate_left
             ·intro w'
              go_simp
              with_reducible rfl
             rotate_left
             ·simp only [Act.put, List.setIfInBounds_toArray, List.set_cons_zero, List.set_cons_succ, i64_w, i32_w]
              rfl
             refine one_ (i := 2) (N := some 41) #[true, true, true, true, true, true, false, false, true, true, false, true, true, true, false, false, false] rfl rfl (one_of HT_.out (by kernel_rfl)) (by decide) (fun K hK => ?_)
             refine goes_ Try.func57 (by kernel_rfl) rfl #[.slice A0 l0.length c0, .slice Ao46 t545.length co46] (by rfl) rfl rfl y18_ ?_
             with_reducible refine (spec_l8Eval.calls k2 _ _ l0 _ _ t545 t548 _ ?side1 ?side2 ?side3 ?side4 A28.out).mono ?_
             (case side1 => exact cm_ (Kd.C_below HR0.out HB.out))
             (case side2 => exact HC0.out)
             (case side3 => exact cm_ (Kd.R_reads' HO547.out).2.2)
             (case side4 => exact (Kd.R_reads' HO547.out).2.1)
             rintro e w47 ⟨v549, rfl, ho0, hb⟩
             refine ⟨_, rfl, ?_⟩
             have n0_ := am_ (Kd.R_elder' (rq_ HO547.out) (Kd.R_base ho0) hb)
             have n1_ := am_ (Kd.R_lower (Kd.R_new' ho0 (Kd.R_lt (rq_ HO547.out))) (below_size (bq_)))
             have n2_ := bs_ hb
             clear HO547 HB
             have HO547 := n0_
             have HO550 := n1_
             have HB := n2_
             clear n0_ n1_ n2_
             (try clear hb)
             (try clear hb2)
             (try clear hk)
             (try clear hi)
             (try clear ho0)
             obtain ⟨Ao48, co48, eo48⟩ := Kd.R_slice HO550.out
             (first | subst eo48 | (injection eo48 with f1_ f2_ f3_; have f4_ := f1_.symm; have f5_ := f3_.symm; clear f1_ f2_ f3_; subst f4_; subst f5_))
             have p551 : 0 ≤ ((ji29) : Int) := od_
             have q551 : (ji29) < (t548.length : Int) := od_
             obtain ⟨ad551, e551, hx551_0⟩ := Kd.at_bool (Kd.R_reads' HO550.out).2.2 (ji29) p551 q551
             cases e551
             replace p551 := eq_true p551
             replace q551 := eq_true q551
             refine hK.out _ _ trivial (fun hHeld => ?_)
             clear hK K
             refine reS_ (fun w' => w'.cell? (ad551.add ((ji29)).toNat) = some (.bool (rdOf false t548 (ji29)))) (fun _ _ => trivial) _ _ _ _ hx551_0 ?_
             replace hHeld := hx551_0
             refine norm_ (a' := ?_) ?_ ?_
             rotate_left
             ·show Act.put _ (some 41) _ = _
              simp only [Act.put, List.setIfInBounds_toArray, List.set_cons_zero, List.set_cons_succ, i64_w, i32_w]
              rfl
             refine pure_ (i := 6) (N := some 45) (v := ?_) (a' := ?_) #[true, true, true, true, true, true, true, false, true, true, false, true, true, true, false, false, false] rfl rfl (any_of HT_.out (by kernel_rfl)) (fun _ _ _ h => h) (Or.inl ⟨by rfl, ?_⟩) ?_ ?_
             rotate_left
             ·intro w'
              go_simp
              with_reducible rfl
             rotate_left
             ·simp only [Act.put, List.setIfInBounds_toArray, List.set_cons_zero, List.set_cons_succ, i64_w, i32_w]
              rfl
             refine take_ (i := 7) (N := some 46) (v := ?_) (a' := ?_) #[true, true, true, true, true, true, true, true, true, true, false, true, true, true, false, false, false] rfl rfl (take_ofW HT_.out HW_.out (by kernel_rfl)) (fun _ _ _ h => h) (Or.inl ⟨by rfl, ?_⟩) hHeld ?_ ?_
             rotate_left
             ·rintro w' s0
              go_simp
              with_reducible rfl
             rotate_left
             ·simp only [Act.put, List.setIfInBounds_toArray, List.set_cons_zero, List.set_cons_succ, i64_w, i32_w]
              rfl
             refine one_ (i := 10) (N := some 49) #[true, true, true, true, true, true, true, true, true, true, true, true, true, true, false, false, false] rfl rfl (one_of HT_.out (by kernel_rfl)) (by decide) (fun K hK => ?_)
             refine goes_ Try.func57 (by kernel_rfl) rfl #[.slice A1 l1.length c1, .slice Ao46 t545.length co46] (by rfl) rfl rfl y18_ ?_
             with_reducible refine (spec_l8Eval.calls k2 _ _ l1 _ _ t545 t552 _ ?side1 ?side2 ?side3 ?side4 A32.out).mono ?_
             (case side1 => exact cm_ (Kd.C_below HR1.out HB.out))
             (case side2 => exact HC1.out)
             (case side3 => exact cm_ (Kd.R_reads' HO547.out).2.2)
             (case side4 => exact (Kd.R_reads' HO547.out).2.1)
             rintro e w49 ⟨v553, rfl, ho0, hb⟩
             have HS0_ := (hb.cell (World.block_lt_of_cell? _ _ (hHeld))).trans (hHeld)
             refine ⟨_, rfl, ?_⟩
             have n0_ := am_ (Kd.R_elder' (rq_ HO547.out) (Kd.R_base ho0) hb)
             have n1_ := am_ (Kd.R_elder' (rq_ HO550.out) (Kd.R_base ho0) hb)
             have n2_ := am_ (Kd.R_lower (Kd.R_new' (Kd.R_new' ho0 (Kd.R_lt (rq_ HO547.out))) (Kd.R_lt (rq_ HO550.out))) (below_size (bq_)))
             have n3_ := bs_ hb
             clear HO547 HO550 HB
             have HO547 := n0_
             have HO550 := n1_
             have HO554 := n2_
             have HB := n3_
             clear n0_ n1_ n2_ n3_
             (try clear hb)
             (try clear hb2)
             (try clear hk)
             (try clear hi)
             (try clear ho0)
             obtain ⟨Ao50, co50, eo50⟩ := Kd.R_slice HO554.out
             (first | subst eo50 | (injection eo50 with f1_ f2_ f3_; have f4_ := f1_.symm; have f5_ := f3_.symm; clear f1_ f2_ f3_; subst f4_; subst f5_))
             have p555 : 0 ≤ ((ji33) : Int) := od_
             have q555 : (ji33) < (t552.length : Int) := od_
             obtain ⟨ad555, e555, hx555_0⟩ := Kd.at_bool (Kd.R_reads' HO554.out).2.2 (ji33) p555 q555
             cases e555
             replace p555 := eq_true p555
             replace q555 := eq_true q555
             refine hK.out _ _ HS0_ (fun hHeld => ?_)
             clear hK K
             refine reS_ (fun w' => (w'.cell? (ad551.add ((ji29)).toNat) = some (.bool (rdOf false t548 (ji29)))) ∧ (w'.cell? (ad555.add ((ji33)).toNat) = some (.bool (rdOf false t552 (ji33))))) (fun _ h => h.1) _ _ _ _ ⟨hHeld, hx555_0⟩ ?_
             replace hHeld := And.intro hHeld hx555_0
             refine norm_ (a' := ?_) ?_ ?_
             rotate_left
             ·show Act.put _ (some 49) _ = _
              simp only [Act.put, List.setIfInBounds_toArray, List.set_cons_zero, List.set_cons_succ, i64_w, i32_w]
              rfl
             refine pure_ (i := 14) (N := some 53) (v := ?_) (a' := ?_) #[true, true, true, true, true, true, true, true, true, true, true, true, true, true, true, false, false] rfl rfl (any_of HT_.out (by kernel_rfl)) (fun _ _ _ h => h) (Or.inl ⟨by rfl, ?_⟩) ?_ ?_
             rotate_left
             ·intro w'
              go_simp
              with_reducible rfl
             rotate_left
             ·simp only [Act.put, List.setIfInBounds_toArray, List.set_cons_zero, List.set_cons_succ, i64_w, i32_w]
              rfl
             refine take_ (i := 15) (N := some 54) (v := ?_) (a' := ?_) #[true, true, true, true, true, true, true, true, true, true, true, true, true, true, true, true, false] rfl rfl (take_ofW HT_.out HW_.out (by kernel_rfl)) (fun _ _ _ h => h) (Or.inl ⟨by rfl, ?_⟩) hHeld ?_ ?_
             rotate_left
             ·rintro w' ⟨s0, s1⟩
              go_simp
              with_reducible rfl
             rotate_left
             ·simp only [Act.put, List.setIfInBounds_toArray, List.set_cons_zero, List.set_cons_succ, i64_w, i32_w]
              rfl
             refine pure_ (i := 16) (N := some 55) (v := ?_) (a' := ?_) #[true, true, true, true, true, true, true, true, true, true, true, true, true, true, true, true, true] rfl rfl (any_of HT_.out (by kernel_rfl)) (fun _ _ _ h => h) (Or.inl ⟨by rfl, ?_⟩) ?_ ?_
             rotate_left
             ·intro w'
              go_simp
              with_reducible rfl
             rotate_left
             ·simp only [Act.put, List.setIfInBounds_toArray, List.set_cons_zero, List.set_cons_succ, i64_w, i32_w]
              rfl
             refine done_ (done_of HT_.out (by kernel_rfl)) ?_
             try go_wp2
             go_roundg k2
             case measure => have := HJ2.out; have := HK2.out; omega
             case rel => exact ⟨(wrap64 (x7_2 + 1)), y53_, H', ⟨by have := HJ2.out; have := HK2.out; omega⟩, ⟨bq_⟩⟩
           ·rw [if_neg c35] at H
            exact absurd H (by simp)
          ·rw [if_neg c34] at H
           exact absurd H (by simp)
         ·rw [if_neg c31] at H
          exact absurd H (by simp)
        ·rw [if_neg c30] at H
         exact absurd H (by simp)
       ·rw [if_neg c26] at H
        have c26b0 : decide (x7_2 < (ji25)) = false := decide_eq_false c26
        clear c26
        simp only [Option.some.injEq, Prod.mk.injEq] at H
        obtain ⟨rfl, rfl⟩ := H
        go_wp2
        go_ret2
        exact ⟨by first | rfl | (simp [errW_none, errW_some] <;> rfl) | (simp only [← hji23, ← hji25]; first | rfl | (simp [errW_none, errW_some] <;> rfl)) | (simp [*, errW_none, errW_some] <;> rfl), bq_⟩
      ·rw [if_neg c24] at H
       exact absurd H (by simp)
end Go.Proofs.Ytgahidilhjijiaa.PGT
