import Derived.Test.YtcmhkgpalfljbaaPPAx0
import Derived.Test.YtcmhkgpalfljbaaPPAx3
namespace Go.Proofs.Ytcmhkgpalfljbaa.PPA
open Go.RowKit Go.Proofs.YtcmhkgpalfljbaaW.PrintWords Go.Proofs.YtcmhkgpalfljbaaW.PrintLast Go.Proofs.YtcmhkgpalfljbaaW.PrintMore
attribute [local go_sem] max2_int min2_int max_two min_two max_three min_three max_four min_four   -- for this text's walks alone
set_option linter.unusedVariables false
set_option linter.unusedSimpArgs false
mutual
def spec_l11Reached.l0 : Nat → List (S51) → List Int → Int → Option (List Int)
 | 0, _, _, _ => none
 | k + 1, x0, x5, x6 => if x6 < (x0.length : Int) then ((spec_l1Has.f k x5 x6).bind fun t186 => (if t186 = true then ((spec_l2Nexts.f x0 x6).bind fun t187 => (spec_l11Reached.l1 k x0 x5 x6 t187 (t187.length : Int) 0)) else (spec_l11Reached.l0 k x0 x5 (wrap64 (x6 + 1))))) else (some x5)
def spec_l11Reached.l1 : Nat → List (S51) → List Int → Int → List Int → Int → Int → Option (List Int)
 | 0, _, _, _, _, _, _ => none
 | k + 1, x0, x5, x6, x23, x24, x25 => if x25 < x24 then (if 0 ≤ x25 then (if x25 < (x23.length : Int) then ((spec_l1Put.f k x5 (rd x23 x25)).bind fun t191 => (spec_l11Reached.l1 k x0 t191 x6 x23 x24 (wrap64 (x25 + 1)))) else (none)) else (none)) else (spec_l11Reached.l0 k x0 x5 (wrap64 (x6 + 1)))
end
def spec_l11Reached.f (k : Nat) (l0 : List (S51)) (a1 : Int) : Option (List Int) := spec_l11Reached.l0 k l0 (([a1] : List Int)) a1
set_option maxHeartbeats 8000000 in
set_option maxRecDepth 100000 in
theorem spec_l11Reached.calls (k : Nat) (A0 : Option Addr) (c0 : Nat) (l0 : List (S51)) (a1 : Int) (r : List Int) (w : World) (hr0 : Kd.C k51 w A0 l0.length l0) (hc0 : l0.length ≤ c0) (h : spec_l11Reached.f k l0 a1 = some r) :
  Calls Try.prog 48 #[.slice A0 l0.length c0, .int .i64 a1] w fun e w' => ∃ v0_ : Value, e = .returned (v0_) ∧ Kd.R (Kd.int .i64) 3 w' w.heap.size (fun _ => True) v0_ r ∧ Below w.heap.size w w' := by
 have HR0 := am_ hr0
 have HC0 := am_ hc0
 clear hr0 hc0
 have HB := am_ (Below.refl w.heap.size w)
 have H : (spec_l11Reached.l0 k l0 (([a1] : List Int)) a1) = some r := h
 clear h
 obtain ⟨y183, hy183⟩ : ∃ y_ : List Int, y_ = (([a1] : List Int)) := ⟨_, rfl⟩
 replace H : (spec_l11Reached.l0 k l0 y183 a1) = some r := by first | (rw [hy183]; with_reducible exact H) | (have H2_ := (Option.bind_some _ _).symm.trans H; rw [hy183]; with_reducible exact H2_) | (have H2_ := (Option.bind_some _ _).symm.trans H; with_reducible exact H2_) | with_reducible exact H | (rw [hy183]; exact H) | exact H
 have Ny183 := am_ hy183
 clear hy183
 have H' := am_ H
 clear H
 go_enter Try.func48, Try.ntmps48
 go_wp2_with (first | ((with_reducible refine gate_dst (N := 10) rfl ?_); refine Kd.R_lit (Kd.int .i64) _ 3 ?hg (N := 10) ?hd (xs := ([a1] : List Int)) (inner := [.int .i64 a1]) (ok := fun _ => True) (okp := fun _ => True) ?hr ?hp (fun _ hk => hk) trivial (Below.refl _ _) (Nat.le_refl _) (by simp) ?_; (case hd => rfl); (case hg => rfl); (case hr => first | (go_simp; done) | (go_simp; rfl)); (case hp => exact (Reps.one (show Kd.M (Kd.int .i64) _ _ _ a1 [.int .i64 a1] from rfl) (Reps.none _ _))); intro v184 w3 ho4 hb hg_ hnew_; clear hg_ hnew_; (first | rw [← Ny183.out] at ho4 | (simp only [Int.reduceToNat] at ho4; rw [← Ny183.out] at ho4)); have HO185 := am_ (Kd.R_lower ho4 (below_size (bq_))); replace HB := bs_ hb; clear hb ho4))
 go_loopg [5, 6] k (fun kq v5 v6 w' => ∃ (x5_1 : List Int) (x6_1 : Int), v6 = .int .i64 x6_1 ∧ Aside0 (spec_l11Reached.l0 kq l0 x5_1 x6_1 = some r) ∧ Aside0 (kq ≤ k) ∧ Aside0 (Kd.R (Kd.int .i64) 3 w' w.heap.size (fun _ => True) v5 x5_1) ∧ Aside0 (Below w.heap.size w w'))
 case atStart => exact ⟨(y183), (a1), y14_, H', ⟨Nat.le_refl _⟩, ⟨rq_ HO185.out⟩, ⟨bq_⟩⟩
 case round =>
  clear H'
  try clear p2
  try clear c4
  obtain ⟨x5_1, x6_1, rfl, HA, HK1, HO_5, HB⟩ := hrel
  cases gk with
  | zero => exact absurd HA.out (by simp [spec_l11Reached.l0])
  | succ k1 =>
   have H := HA.out
   clear HA
   simp only [spec_l11Reached.l0] at H
   by_cases c5 : x6_1 < (l0.length : Int)
   ·rw [if_pos c5] at H
    have c5b0 : decide (x6_1 < (l0.length : Int)) = true := decide_eq_true c5
    clear c5
    replace H := Option.bind_eq_some_iff.mp H
    obtain ⟨t186, A60, H⟩ := H
    replace H : (if t186 = true then ((spec_l2Nexts.f l0 x6_1).bind fun t187 => (spec_l11Reached.l1 k1 l0 x5_1 x6_1 t187 (t187.length : Int) 0)) else (spec_l11Reached.l0 k1 l0 x5_1 (wrap64 (x6_1 + 1)))) = some r := H
    have A6 := am_ A60
    clear A60
    by_cases c7 : t186 = true
    ·subst c7
     have H1 : ((spec_l2Nexts.f l0 x6_1).bind fun t187 => (spec_l11Reached.l1 k1 l0 x5_1 x6_1 t187 (t187.length : Int) 0)) = some r := by rw [if_pos rfl] at H; exact H
     clear H
     have H := H1
     clear H1
     replace H := Option.bind_eq_some_iff.mp H
     obtain ⟨t187, A80, H⟩ := H
     replace H : (spec_l11Reached.l1 k1 l0 x5_1 x6_1 t187 (t187.length : Int) 0) = some r := H
     have A8 := am_ A80
     clear A80
     have H' := am_ H
     clear H
     obtain ⟨Ao9, co9, eo9⟩ := Kd.R_slice HO_5.out
     subst eo9
     go_wp2_with (first | ((with_reducible refine gl_ 55 rfl ?_); refine goesM_ (some 20) Try.func55 #[.slice Ao9 x5_1.length co9, .int .i64 x6_1] ?_; (with_reducible refine (spec_l1Has.calls k1 _ _ x5_1 x6_1 true _ ?side1 ?side2 A6.out).mono ?_); (case side1 => exact cm_ (Kd.R_reads' HO_5.out).2.2); (case side2 => exact (Kd.R_reads' HO_5.out).2.1); rintro e w' ⟨rfl, ⟨nd, rfl⟩⟩; refine ⟨_, rfl, ?_⟩) | ((with_reducible refine gl_ 42 rfl ?_); refine goesM_ (some 23) Try.func42 #[.slice A0 l0.length c0, .int .i64 x6_1] ?_; (with_reducible refine (spec_l2Nexts.calls _ _ l0 x6_1 t187 _ ?side1 ?side2 A8.out).mono ?_); (case side1 => exact cm_ (Kd.C_below HR0.out (bq_))); (case side2 => exact HC0.out); rintro e w10 ⟨v188, rfl, ho0, hb⟩; refine ⟨_, rfl, ?_⟩; have HO189 := am_ (Kd.R_lower (Kd.R_new' ho0 (Kd.R_lt (rq_ HO_5.out))) (below_size (bq_))); replace HO_5 := am_ (Kd.R_elder' (rq_ HO_5.out) (Kd.R_base ho0) hb); replace HB := bs_ hb; (try clear hb); (try clear ho0); obtain ⟨Ao11, co11, eo11⟩ := Kd.R_slice HO189.out; subst eo11))
     go_loopg [5, 25] k1 (fun kq v5 v25 w' => ∃ (x5_2 : List Int) (x25_2 : Int), v25 = .int .i64 x25_2 ∧ Aside0 (spec_l11Reached.l1 kq l0 x5_2 x6_1 t187 (t187.length : Int) x25_2 = some r) ∧ Aside0 (kq ≤ k1) ∧ Aside0 (Kd.R (Kd.int .i64) 3 w' w.heap.size (fun k_ => some k_ ≠ ((.slice Ao11 t187.length co11) : Value).ownBlock) v5 x5_2) ∧ Aside0 (Kd.R (Kd.int .i64) 3 w' w.heap.size (fun k_ => some k_ ≠ (v5 : Value).ownBlock) (.slice Ao11 t187.length co11) t187) ∧ Aside0 (Below w.heap.size w w'))
     case atStart => exact ⟨(x5_1), (0), y14_, H', ⟨Nat.le_refl _⟩, ⟨rq_ (Kd.R_mono HO_5.out (fun _ hk => hk.2))⟩, ⟨rq_ (Kd.R_mono HO189.out (fun _ hk => hk.2))⟩, ⟨bq_⟩⟩
     case round =>
      clear H'
      try clear p2
      try clear c4
      try clear c5
      try clear c5b0
      try clear p6
      try clear c7
      try clear p2
      obtain ⟨x5_2, x25_2, rfl, HA, HK2, HO_5, HO_23, HB⟩ := hrel
      cases gk with
      | zero => exact absurd HA.out (by simp [spec_l11Reached.l1])
      | succ k2 =>
       have H := HA.out
       clear HA
       simp only [spec_l11Reached.l1] at H
       by_cases c12 : x25_2 < (t187.length : Int)
       ·rw [if_pos c12] at H
        have c12b0 : decide (x25_2 < (t187.length : Int)) = true := decide_eq_true c12
        clear c12
        by_cases c13 : 0 ≤ x25_2
        ·rw [if_pos c13] at H
         have c13b0 : decide (0 ≤ x25_2) = true := decide_eq_true c13
         clear c13
         by_cases c14 : x25_2 < (t187.length : Int)
         ·rw [if_pos c14] at H
          have c14b0 : decide (x25_2 < (t187.length : Int)) = true := decide_eq_true c14
          clear c14
          replace H := Option.bind_eq_some_iff.mp H
          obtain ⟨t191, A150, H⟩ := H
          replace H : (spec_l11Reached.l1 k2 l0 t191 x6_1 t187 (t187.length : Int) (wrap64 (x25_2 + 1))) = some r := H
          have A15 := am_ A150
          clear A150
          have H' := am_ H
          clear H
          have p190 : 0 ≤ (x25_2 : Int) := od_
          have q190 : x25_2 < (t187.length : Int) := od_
          obtain ⟨ad190, e190, hx190_0⟩ := Kd.at_int (Kd.R_reads' HO_23.out).2.2 x25_2 p190 q190
          cases e190
          replace p190 := eq_true p190
          replace q190 := eq_true q190
          obtain ⟨Ao16, co16, eo16⟩ := Kd.R_slice HO_5.out
          subst eo16
          go_wp2_with (first | ((with_reducible refine gl_ 54 rfl ?_); refine goesM_ (some 31) Try.func54 #[.slice Ao16 x5_2.length co16, .int .i64 (rd t187 x25_2)] ?_; (with_reducible refine (spec_l1Put.calls k2 (fun k_ => some k_ = (.slice Ao16 x5_2.length co16 : Value).ownBlock) (.slice Ao16 x5_2.length co16) x5_2 (rd t187 x25_2) t191 w _ ?side1 ?side2 A15.out).mono ?_); (case side1 => repeat (first | (with_reducible first | exact HB.out | apply below_alloc | apply pw_below_drewN | apply below_drew1) | exact HB.out)); (case side2 => exact Kd.R_tight rfl HO_5.out); rintro e w17 ⟨v192, rfl, ho0, hb, hkp⟩; refine ⟨_, rfl, ?_⟩; have HO193 := am_ (Kd.R_mono (ok' := fun k_ => some k_ ≠ (.slice (some ad190) t187.length co11 : Value).ownBlock) ho0 (fun k_ hk_ => Or.elim hk_ (fun hs_ => fun e_ => (((HO_23.out).1 k_ e_.symm)) hs_) (fun hn_ => (Kd.fresh' (Kd.R_lt (rq_ HO_23.out)) k_ hn_)))); replace HO_23 := am_ (Kd.R_mono (ok' := fun k_ => some k_ ≠ (v192 : Value).ownBlock) (Kd.R_keptB (HO_23.out) hkp (fun k_ hk_ hs_ => (hk_) hs_)) (fun k_ hk_ => fun e_ => Or.elim (ho0.1 k_ e_.symm) (fun hs_ => hk_.2.1 hs_) (fun hn_ => Nat.not_le.2 hk_.2.2 hn_))); replace HB := am_ (hb); clear HO_5; (try clear hb); (try clear hkp); (try clear ho0)))
          go_roundg k2
          case measure => have := HK1.out; have := HK2.out; omega
          case rel => exact ⟨(t191), (wrap64 (x25_2 + 1)), y14_, H', ⟨by have := HK1.out; have := HK2.out; omega⟩, ⟨rq_ HO193.out⟩, ⟨rq_ HO_23.out⟩, ⟨bq_⟩⟩
         ·rw [if_neg c14] at H
          exact absurd H (by simp)
        ·rw [if_neg c13] at H
         exact absurd H (by simp)
       ·rw [if_neg c12] at H
        have c12b0 : decide (x25_2 < (t187.length : Int)) = false := decide_eq_false c12
        clear c12
        have H' := am_ H
        clear H
        go_wp2
        go_roundg k2
        case measure => have := HK1.out; have := HK2.out; omega
        case rel => exact ⟨(x5_2), (wrap64 (x6_1 + 1)), y14_, H', ⟨by have := HK1.out; have := HK2.out; omega⟩, ⟨rq_ (Kd.R_mono HO_5.out (fun _ hk => trivial))⟩, ⟨bq_⟩⟩
    ·replace c7 := Bool.eq_false_iff.mpr c7
     subst c7
     have H1 : (spec_l11Reached.l0 k1 l0 x5_1 (wrap64 (x6_1 + 1))) = some r := by rw [if_neg (show ¬ (false = true) by decide)] at H; exact H
     clear H
     have H := H1
     clear H1
     have H' := am_ H
     clear H
     obtain ⟨Ao18, co18, eo18⟩ := Kd.R_slice HO_5.out
     subst eo18
     go_wp2_with (first | ((with_reducible refine gl_ 55 rfl ?_); refine goesM_ (some 20) Try.func55 #[.slice Ao18 x5_1.length co18, .int .i64 x6_1] ?_; (with_reducible refine (spec_l1Has.calls k1 _ _ x5_1 x6_1 false _ ?side1 ?side2 A6.out).mono ?_); (case side1 => exact cm_ (Kd.R_reads' HO_5.out).2.2); (case side2 => exact (Kd.R_reads' HO_5.out).2.1); rintro e w' ⟨rfl, ⟨nd, rfl⟩⟩; refine ⟨_, rfl, ?_⟩))
     go_roundg k1
     case measure => have := HK1.out; omega
     case rel => exact ⟨(x5_1), (wrap64 (x6_1 + 1)), y14_, H', ⟨by have := HK1.out; omega⟩, ⟨rq_ HO_5.out⟩, ⟨bq_⟩⟩
   ·rw [if_neg c5] at H
    have c5b0 : decide (x6_1 < (l0.length : Int)) = false := decide_eq_false c5
    clear c5
    obtain rfl := Option.some.inj H
    go_wp2
    go_ret
    exact ⟨_, by first | rfl | (simp [errW_none, errW_some] <;> rfl) | (simp [*, errW_none, errW_some] <;> rfl), rq_ HO_5.out, bq_⟩
def spec_ReachedIn.f (k : Nat) (l0 : List (S51)) : Option (List Int × Bool) := (spec_GoodProgram.f k l0).bind fun t194 => (if t194 = true then ((spec_l11Reached.f k l0 0).bind fun t195 => (some (t195, true))) else (some (([] : List Int), false)))
set_option maxHeartbeats 8000000 in
set_option maxRecDepth 100000 in
theorem spec_ReachedIn.calls (k : Nat) (A0 : Option Addr) (c0 : Nat) (l0 : List (S51)) (r1 : List Int) (r2 : Bool) (w : World) (hr0 : Kd.C k51 w A0 l0.length l0) (hc0 : l0.length ≤ c0) (h : spec_ReachedIn.f k l0 = some (r1, r2)) :
  Calls Try.prog 17 #[.slice A0 l0.length c0] w fun e w' => ∃ v0_ : Value, e = .returned (.tuple #[v0_, .bool r2]) ∧ Kd.R (Kd.int .i64) 3 w' w.heap.size (fun _ => True) v0_ r1 ∧ Below w.heap.size w w' := by
 have HR0 := am_ hr0
 have HC0 := am_ hc0
 clear hr0 hc0
 have HB := am_ (Below.refl w.heap.size w)
 have H : ((spec_GoodProgram.f k l0).bind fun t194 => (if t194 = true then ((spec_l11Reached.f k l0 0).bind fun t195 => (some (t195, true))) else (some (([] : List Int), false)))) = some (r1, r2) := h
 clear h
 replace H := Option.bind_eq_some_iff.mp H
 obtain ⟨t194, A20, H⟩ := H
 replace H : (if t194 = true then ((spec_l11Reached.f k l0 0).bind fun t195 => (some (t195, true))) else (some (([] : List Int), false))) = some (r1, r2) := H
 have A2 := am_ A20
 clear A20
 by_cases c3 : t194 = true
 ·subst c3
  have H1 : ((spec_l11Reached.f k l0 0).bind fun t195 => (some (t195, true))) = some (r1, r2) := by rw [if_pos rfl] at H; exact H
  clear H
  have H := H1
  clear H1
  replace H := Option.bind_eq_some_iff.mp H
  obtain ⟨t195, A40, H⟩ := H
  replace H : (some (t195, true)) = some (r1, r2) := H
  have A4 := am_ A40
  clear A40
  simp only [Option.some.injEq, Prod.mk.injEq] at H
  obtain ⟨rfl, rfl⟩ := H
  go_enter Try.func17, Try.ntmps17
  go_wp2_with (first | ((with_reducible refine gl_ 47 rfl ?_); refine goesM_ (some 5) Try.func47 #[.slice A0 l0.length c0] ?_; (with_reducible refine (spec_GoodProgram.calls k _ _ l0 true _ ?side1 ?side2 A2.out).mono ?_); (case side1 => exact cm_ HR0.out); (case side2 => exact HC0.out); rintro e w5 ⟨rfl, hb⟩; refine ⟨_, rfl, ?_⟩; replace HB := bs_ hb; (try clear hb)) | ((with_reducible refine gl_ 48 rfl ?_); refine goesM_ (some 8) Try.func48 #[.slice A0 l0.length c0, .int .i64 0] ?_; (with_reducible refine (spec_l11Reached.calls k _ _ l0 0 t195 _ ?side1 ?side2 A4.out).mono ?_); (case side1 => exact cm_ (Kd.C_below HR0.out HB.out)); (case side2 => exact HC0.out); rintro e w6 ⟨v196, rfl, ho0, hb⟩; refine ⟨_, rfl, ?_⟩; have HO197 := am_ (Kd.R_lower ho0 (below_size (bq_))); replace HB := bs_ hb; (try clear hb); (try clear ho0)))
  go_ret2
  exact ⟨_, by first | rfl | (simp [errW_none, errW_some] <;> rfl) | (simp [*, errW_none, errW_some] <;> rfl), rq_ HO197.out, bq_⟩
 ·replace c3 := Bool.eq_false_iff.mpr c3
  subst c3
  have H1 : (some (([] : List Int), false)) = some (r1, r2) := by rw [if_neg (show ¬ (false = true) by decide)] at H; exact H
  clear H
  have H := H1
  clear H1
  simp only [Option.some.injEq, Prod.mk.injEq] at H
  obtain ⟨rfl, rfl⟩ := H
  go_enter Try.func17, Try.ntmps17
  go_wp2_with (first | ((with_reducible refine gl_ 47 rfl ?_); refine goesM_ (some 5) Try.func47 #[.slice A0 l0.length c0] ?_; (with_reducible refine (spec_GoodProgram.calls k _ _ l0 false _ ?side1 ?side2 A2.out).mono ?_); (case side1 => exact cm_ HR0.out); (case side2 => exact HC0.out); rintro e w7 ⟨rfl, hb⟩; refine ⟨_, rfl, ?_⟩; replace HB := bs_ hb; (try clear hb)))
  go_ret2
  exact ⟨_, by first | rfl | (simp [errW_none, errW_some] <;> rfl) | (simp [*, errW_none, errW_some] <;> rfl), by first | exact Kd.R_nil _ _ _ _ _ | exact Kd.N_nil _ _ _ _ _ | exact Kd.V_nil _ _ _ _ _ | exact Kd.Q_nil _ _ _ _ _ | exact Kd.S_nil _ _ _ _ _, bq_⟩
def impl_Step_jumps.f (a0_0 : Int) (a0_1 : Int) (a0_2 : Int) (a0_3 : Int) (a0_4 : Int) (a0_5 : Int) : Option (Bool) := if a0_0 = 8 then (some true) else (if a0_0 = 9 then (some true) else (some (a0_0 == 10)))
set_option maxHeartbeats 8000000 in
set_option maxRecDepth 100000 in
theorem impl_Step_jumps.calls (a0_0 : Int) (a0_1 : Int) (a0_2 : Int) (a0_3 : Int) (a0_4 : Int) (a0_5 : Int) (r : Bool) (w : World) (h : impl_Step_jumps.f a0_0 a0_1 a0_2 a0_3 a0_4 a0_5 = some r) :
  Calls Try.prog 56 #[.agg #[.int .i64 a0_0, .int .i64 a0_1, .int .i64 a0_2, .int .i64 a0_3, .int .i64 a0_4, .int .i64 a0_5]] w fun e w' => e = .returned (.bool r) ∧ Below w.heap.size w w' := by
 have hu51 := Try.underlying51
 have HB := am_ (Below.refl w.heap.size w)
 have H : (if a0_0 = 8 then (some true) else (if a0_0 = 9 then (some true) else (some (a0_0 == 10)))) = some r := h
 clear h
 by_cases c2 : a0_0 = 8
 ·rw [if_pos c2] at H
  have c2b0 : (a0_0 == 8) = true := beq_iff_eq.mpr c2
  have c2b1 : (a0_0 != 8) = false := bne_eq_false_iff_eq.mpr c2
  clear c2
  obtain rfl := Option.some.inj H
  go_enter Try.func56, Try.ntmps56
  go_wp2_with (first | ((with_reducible refine gate_dst (N := 1) rfl ?_); refine boxq_ (N := 1) (cs := #[.int .i64 a0_0, .int .i64 a0_1, .int .i64 a0_2, .int .i64 a0_3, .int .i64 a0_4, .int .i64 a0_5]) (t := 51) ?_; intro gb198 hg w3 hbox hb; have BK198 := am_ (hbox); have GW198 := gz_ hg; have GE198 := gz_ hg; replace HB := bs_ hb; clear hb hbox hg; have hcz4_0 := cq_ BK198.out 0 (.int .i64 a0_0); have hcz4_1 := cq_ BK198.out 1 (.int .i64 a0_1); have hcz4_2 := cq_ BK198.out 2 (.int .i64 a0_2); have hcz4_3 := cq_ BK198.out 3 (.int .i64 a0_3); have hcz4_4 := cq_ BK198.out 4 (.int .i64 a0_4); have hcz4_5 := cq_ BK198.out 5 (.int .i64 a0_5); have hfz4_0 := blk_frozen BK198.out 0; have hfz4_1 := blk_frozen BK198.out 1; have hfz4_2 := blk_frozen BK198.out 2; have hfz4_3 := blk_frozen BK198.out 3; have hfz4_4 := blk_frozen BK198.out 4; have hfz4_5 := blk_frozen BK198.out 5))
  go_ret
  exact ⟨by first | rfl | (simp [errW_none, errW_some] <;> rfl) | (simp [*, errW_none, errW_some] <;> rfl), bq_⟩
 ·rw [if_neg c2] at H
  have c2b0 : (a0_0 == 8) = false := beq_eq_false_iff_ne.mpr c2
  have c2b1 : (a0_0 != 8) = true := bne_iff_ne.mpr c2
  by_cases c5 : a0_0 = 9
  ·rw [if_pos c5] at H
   have c5b0 : (a0_0 == 9) = true := beq_iff_eq.mpr c5
   have c5b1 : (a0_0 != 9) = false := bne_eq_false_iff_eq.mpr c5
   clear c5
   obtain rfl := Option.some.inj H
   go_enter Try.func56, Try.ntmps56
   go_wp2_with (first | ((with_reducible refine gate_dst (N := 1) rfl ?_); refine boxq_ (N := 1) (cs := #[.int .i64 a0_0, .int .i64 a0_1, .int .i64 a0_2, .int .i64 a0_3, .int .i64 a0_4, .int .i64 a0_5]) (t := 51) ?_; intro gb198 hg w6 hbox hb; have BK198 := am_ (hbox); have GW198 := gz_ hg; have GE198 := gz_ hg; replace HB := bs_ hb; clear hb hbox hg; have hcz7_0 := cq_ BK198.out 0 (.int .i64 a0_0); have hcz7_1 := cq_ BK198.out 1 (.int .i64 a0_1); have hcz7_2 := cq_ BK198.out 2 (.int .i64 a0_2); have hcz7_3 := cq_ BK198.out 3 (.int .i64 a0_3); have hcz7_4 := cq_ BK198.out 4 (.int .i64 a0_4); have hcz7_5 := cq_ BK198.out 5 (.int .i64 a0_5); have hfz7_0 := blk_frozen BK198.out 0; have hfz7_1 := blk_frozen BK198.out 1; have hfz7_2 := blk_frozen BK198.out 2; have hfz7_3 := blk_frozen BK198.out 3; have hfz7_4 := blk_frozen BK198.out 4; have hfz7_5 := blk_frozen BK198.out 5))
   go_ret
   exact ⟨by first | rfl | (simp [errW_none, errW_some] <;> rfl) | (simp [*, errW_none, errW_some] <;> rfl), bq_⟩
  ·rw [if_neg c5] at H
   have c5b0 : (a0_0 == 9) = false := beq_eq_false_iff_ne.mpr c5
   have c5b1 : (a0_0 != 9) = true := bne_iff_ne.mpr c5
   obtain rfl := Option.some.inj H
   go_enter Try.func56, Try.ntmps56
   go_wp2_with (first | ((with_reducible refine gate_dst (N := 1) rfl ?_); refine boxq_ (N := 1) (cs := #[.int .i64 a0_0, .int .i64 a0_1, .int .i64 a0_2, .int .i64 a0_3, .int .i64 a0_4, .int .i64 a0_5]) (t := 51) ?_; intro gb198 hg w8 hbox hb; have BK198 := am_ (hbox); have GW198 := gz_ hg; have GE198 := gz_ hg; replace HB := bs_ hb; clear hb hbox hg; have hcz9_0 := cq_ BK198.out 0 (.int .i64 a0_0); have hcz9_1 := cq_ BK198.out 1 (.int .i64 a0_1); have hcz9_2 := cq_ BK198.out 2 (.int .i64 a0_2); have hcz9_3 := cq_ BK198.out 3 (.int .i64 a0_3); have hcz9_4 := cq_ BK198.out 4 (.int .i64 a0_4); have hcz9_5 := cq_ BK198.out 5 (.int .i64 a0_5); have hfz9_0 := blk_frozen BK198.out 0; have hfz9_1 := blk_frozen BK198.out 1; have hfz9_2 := blk_frozen BK198.out 2; have hfz9_3 := blk_frozen BK198.out 3; have hfz9_4 := blk_frozen BK198.out 4; have hfz9_5 := blk_frozen BK198.out 5))
   go_ret
   exact ⟨by first | rfl | (simp [errW_none, errW_some] <;> rfl) | (simp [*, errW_none, errW_some] <;> rfl), bq_⟩
def impl_in.f (a0 : Int) (a1 : Int) (a2 : Int) : Option (Bool) := if a0 ≥ a1 then (some (decide (a0 ≤ a2))) else (some false)
set_option maxHeartbeats 8000000 in
set_option maxRecDepth 100000 in
theorem impl_in.calls (a0 : Int) (a1 : Int) (a2 : Int) (r : Bool) (w : World) (h : impl_in.f a0 a1 a2 = some r) :
  Calls Try.prog 70 #[.int .i64 a0, .int .i64 a1, .int .i64 a2] w fun e w' => e = .returned (.bool r) ∧ Drawn0 w w' := by
 have H : (if a0 ≥ a1 then (some (decide (a0 ≤ a2))) else (some false)) = some r := h
 clear h
 by_cases c4 : a0 ≥ a1
 ·rw [if_pos c4] at H
  have c4b0 : decide (a1 ≤ a0) = true := decide_eq_true c4
  clear c4
  obtain rfl := Option.some.inj H
  go_enter Try.func70, Try.ntmps70
  go_wp2
  go_ret
  exact ⟨by first | rfl | (simp; done) | (simp [*]; done), by repeat (first | exact Drawn0.refl _ | apply Drawn0.step)⟩
 ·rw [if_neg c4] at H
  have c4b0 : decide (a1 ≤ a0) = false := decide_eq_false c4
  clear c4
  obtain rfl := Option.some.inj H
  go_enter Try.func70, Try.ntmps70
  go_wp2
  go_ret
  exact ⟨by first | rfl | (simp; done) | (simp [*]; done), by repeat (first | exact Drawn0.refl _ | apply Drawn0.step)⟩
def impl_fields.j0 : Nat → Int → Bool → Option (ByteArray)
 | 0, _, _ => none
 | k + 1, x3, x8 => if x8 = true then (some (⟨#[100, 105]⟩ : ByteArray)) else (if x3 = 5 then (some (⟨#[100, 115, 105]⟩ : ByteArray)) else (if x3 = 8 then (some (⟨#[116]⟩ : ByteArray)) else (if x3 = 9 then (some (⟨#[100, 115, 116]⟩ : ByteArray)) else (if x3 = 10 then (some (⟨#[100, 115, 116]⟩ : ByteArray)) else (some (⟨#[]⟩ : ByteArray))))))
def impl_fields.f (k : Nat) (a0 : Int) : Option (ByteArray) := if a0 = 1 then (some (⟨#[111, 100, 115]⟩ : ByteArray)) else (if a0 = 2 then (some (⟨#[111, 100, 105]⟩ : ByteArray)) else (if a0 = 3 then (impl_fields.j0 k a0 (a0 == 3)) else (if a0 = 4 then (impl_fields.j0 k a0 (a0 == 4)) else (if a0 = 6 then (impl_fields.j0 k a0 (a0 == 6)) else (impl_fields.j0 k a0 (a0 == 7))))))
set_option maxHeartbeats 8000000 in
set_option maxRecDepth 100000 in
theorem impl_fields.calls (k : Nat) (a0 : Int) (r : ByteArray) (w : World) (h : impl_fields.f k a0 = some r) :
  Calls Try.prog 86 #[.int .i64 a0] w fun e w' => e = .returned (.string r) ∧ Drawn0 w w' := by
 have H : (if a0 = 1 then (some (⟨#[111, 100, 115]⟩ : ByteArray)) else (if a0 = 2 then (some (⟨#[111, 100, 105]⟩ : ByteArray)) else (if a0 = 3 then (impl_fields.j0 k a0 (a0 == 3)) else (if a0 = 4 then (impl_fields.j0 k a0 (a0 == 4)) else (if a0 = 6 then (impl_fields.j0 k a0 (a0 == 6)) else (impl_fields.j0 k a0 (a0 == 7))))))) = some r := h
 clear h
 by_cases c2 : a0 = 1
 ·rw [if_pos c2] at H
  have c2b0 : (a0 == 1) = true := beq_iff_eq.mpr c2
  have c2b1 : (a0 != 1) = false := bne_eq_false_iff_eq.mpr c2
  clear c2
  obtain rfl := Option.some.inj H
  go_enter Try.func86, Try.ntmps86
  go_wp2
  go_ret
  exact ⟨by first | rfl | (simp; done) | (simp [*]; done), by repeat (first | exact Drawn0.refl _ | apply Drawn0.step)⟩
 ·rw [if_neg c2] at H
  have c2b0 : (a0 == 1) = false := beq_eq_false_iff_ne.mpr c2
  have c2b1 : (a0 != 1) = true := bne_iff_ne.mpr c2
  by_cases c3 : a0 = 2
  ·rw [if_pos c3] at H
   have c3b0 : (a0 == 2) = true := beq_iff_eq.mpr c3
   have c3b1 : (a0 != 2) = false := bne_eq_false_iff_eq.mpr c3
   clear c3
   obtain rfl := Option.some.inj H
   go_enter Try.func86, Try.ntmps86
   go_wp2
   go_ret
   exact ⟨by first | rfl | (simp; done) | (simp [*]; done), by repeat (first | exact Drawn0.refl _ | apply Drawn0.step)⟩
  ·rw [if_neg c3] at H
   have c3b0 : (a0 == 2) = false := beq_eq_false_iff_ne.mpr c3
   have c3b1 : (a0 != 2) = true := bne_iff_ne.mpr c3
   have HC4 := am_ H
   clear H
   go_enter Try.func86, Try.ntmps86
   go_upto_if 8 with (fail)
   go_cut [8] (fun v8 wc => ∃ (kq : Nat) (x8_3 : Bool), v8 = .bool x8_3 ∧ Aside0 (impl_fields.j0 kq a0 x8_3 = some r) ∧ Aside0 (kq ≤ k) ∧ Drawn0 w wc)
   case first =>
    have H := HC4.out
    clear HC4
    by_cases c5 : a0 = 3
    ·rw [if_pos c5] at H
     have c5b0 : (a0 == 3) = true := beq_iff_eq.mpr c5
     have c5b1 : (a0 != 3) = false := bne_eq_false_iff_eq.mpr c5
     clear c5
     (first | rw [c5b0] | (simp only [i64_w, i32_w]; rw [c5b0]) | skip)
     have H' := am_ H
     clear H
     go_wp2
     go_meet
     case rel => exact ⟨_, ((a0 == 3)), y14_, H', ⟨by first | omega | exact Nat.le_refl _⟩, by repeat (first | exact Drawn0.refl _ | apply Drawn0.step)⟩
    ·rw [if_neg c5] at H
     have c5b0 : (a0 == 3) = false := beq_eq_false_iff_ne.mpr c5
     have c5b1 : (a0 != 3) = true := bne_iff_ne.mpr c5
     (first | rw [c5b0] | (simp only [i64_w, i32_w]; rw [c5b0]) | skip)
     by_cases c6 : a0 = 4
     ·rw [if_pos c6] at H
      have c6b0 : (a0 == 4) = true := beq_iff_eq.mpr c6
      have c6b1 : (a0 != 4) = false := bne_eq_false_iff_eq.mpr c6
      clear c6
      have H' := am_ H
      clear H
      go_wp2
      go_meet
      case rel => exact ⟨_, ((a0 == 4)), y14_, H', ⟨by first | omega | exact Nat.le_refl _⟩, by repeat (first | exact Drawn0.refl _ | apply Drawn0.step)⟩
     ·rw [if_neg c6] at H
      have c6b0 : (a0 == 4) = false := beq_eq_false_iff_ne.mpr c6
      have c6b1 : (a0 != 4) = true := bne_iff_ne.mpr c6
      by_cases c7 : a0 = 6
      ·rw [if_pos c7] at H
       have c7b0 : (a0 == 6) = true := beq_iff_eq.mpr c7
       have c7b1 : (a0 != 6) = false := bne_eq_false_iff_eq.mpr c7
       clear c7
       have H' := am_ H
       clear H
       go_wp2
       go_meet
       case rel => exact ⟨_, ((a0 == 6)), y14_, H', ⟨by first | omega | exact Nat.le_refl _⟩, by repeat (first | exact Drawn0.refl _ | apply Drawn0.step)⟩
      ·rw [if_neg c7] at H
       have c7b0 : (a0 == 6) = false := beq_eq_false_iff_ne.mpr c7
       have c7b1 : (a0 != 6) = true := bne_iff_ne.mpr c7
       have H' := am_ H
       clear H
       go_wp2
       go_meet
       case rel => exact ⟨_, ((a0 == 7)), y14_, H', ⟨by first | omega | exact Nat.le_refl _⟩, by repeat (first | exact Drawn0.refl _ | apply Drawn0.step)⟩
   case rest =>
    clear HC4
    try clear c2
    try clear c2b0
    try clear c2b1
    try clear p2
    try clear c3
    try clear c3b0
    try clear c3b1
    try clear c5
    try clear c5b0
    try clear c5b1
    try clear c6
    try clear c6b0
    try clear c6b1
    try clear c7
    try clear c7b0
    try clear c7b1
    obtain ⟨kq, x8_3, rfl, HA, HJ3, ⟨mc3, rfl⟩⟩ := hcut
    cases kq with
    | zero => exact absurd HA.out (by simp [impl_fields.j0])
    | succ kj3 =>
     have H := HA.out
     clear HA
     simp only [impl_fields.j0] at H
     by_cases c8 : x8_3 = true
     ·subst c8
      have H1 : (some (⟨#[100, 105]⟩ : ByteArray)) = some r := by rw [if_pos rfl] at H; exact H
      clear H
      have H := H1
      clear H1
      obtain rfl := Option.some.inj H
      go_wp2
      go_ret
      exact ⟨by first | rfl | (simp; done) | (simp [*]; done), by repeat (first | exact Drawn0.refl _ | apply Drawn0.step)⟩
     ·replace c8 := Bool.eq_false_iff.mpr c8
      subst c8
      have H1 : (if a0 = 5 then (some (⟨#[100, 115, 105]⟩ : ByteArray)) else (if a0 = 8 then (some (⟨#[116]⟩ : ByteArray)) else (if a0 = 9 then (some (⟨#[100, 115, 116]⟩ : ByteArray)) else (if a0 = 10 then (some (⟨#[100, 115, 116]⟩ : ByteArray)) else (some (⟨#[]⟩ : ByteArray)))))) = some r := by rw [if_neg (show ¬ (false = true) by decide)] at H; exact H
      clear H
      have H := H1
      clear H1
      by_cases c9 : a0 = 5
      ·rw [if_pos c9] at H
       have c9b0 : (a0 == 5) = true := beq_iff_eq.mpr c9
       have c9b1 : (a0 != 5) = false := bne_eq_false_iff_eq.mpr c9
       clear c9
       obtain rfl := Option.some.inj H
       go_wp2
       go_ret
       exact ⟨by first | rfl | (simp; done) | (simp [*]; done), by repeat (first | exact Drawn0.refl _ | apply Drawn0.step)⟩
      ·rw [if_neg c9] at H
       have c9b0 : (a0 == 5) = false := beq_eq_false_iff_ne.mpr c9
       have c9b1 : (a0 != 5) = true := bne_iff_ne.mpr c9
       by_cases c10 : a0 = 8
       ·rw [if_pos c10] at H
        have c10b0 : (a0 == 8) = true := beq_iff_eq.mpr c10
        have c10b1 : (a0 != 8) = false := bne_eq_false_iff_eq.mpr c10
        clear c10
        obtain rfl := Option.some.inj H
        go_wp2
        go_ret
        exact ⟨by first | rfl | (simp; done) | (simp [*]; done), by repeat (first | exact Drawn0.refl _ | apply Drawn0.step)⟩
       ·rw [if_neg c10] at H
        have c10b0 : (a0 == 8) = false := beq_eq_false_iff_ne.mpr c10
        have c10b1 : (a0 != 8) = true := bne_iff_ne.mpr c10
        by_cases c11 : a0 = 9
        ·rw [if_pos c11] at H
         have c11b0 : (a0 == 9) = true := beq_iff_eq.mpr c11
         have c11b1 : (a0 != 9) = false := bne_eq_false_iff_eq.mpr c11
         clear c11
         obtain rfl := Option.some.inj H
         go_wp2
         go_ret
         exact ⟨by first | rfl | (simp; done) | (simp [*]; done), by repeat (first | exact Drawn0.refl _ | apply Drawn0.step)⟩
        ·rw [if_neg c11] at H
         have c11b0 : (a0 == 9) = false := beq_eq_false_iff_ne.mpr c11
         have c11b1 : (a0 != 9) = true := bne_iff_ne.mpr c11
         by_cases c12 : a0 = 10
         ·rw [if_pos c12] at H
          have c12b0 : (a0 == 10) = true := beq_iff_eq.mpr c12
          have c12b1 : (a0 != 10) = false := bne_eq_false_iff_eq.mpr c12
          clear c12
          obtain rfl := Option.some.inj H
          go_wp2
          go_ret
          exact ⟨by first | rfl | (simp; done) | (simp [*]; done), by repeat (first | exact Drawn0.refl _ | apply Drawn0.step)⟩
         ·rw [if_neg c12] at H
          have c12b0 : (a0 == 10) = false := beq_eq_false_iff_ne.mpr c12
          have c12b1 : (a0 != 10) = true := bne_iff_ne.mpr c12
          obtain rfl := Option.some.inj H
          go_wp2
          go_ret
          exact ⟨by first | rfl | (simp; done) | (simp [*]; done), by repeat (first | exact Drawn0.refl _ | apply Drawn0.step)⟩
def impl_Step_ranges.j0 : Nat → Int → Bool → Int → Int → Int → Int → Int → Int → Option (Int × Int)
 | 0, _, _, _, _, _, _, _, _ => none
 | k + 1, x1, x9, x200000, x200001, x200002, x200003, x200004, x200005 => if x9 = true then (some (0, 5)) else (if x1 = 116 then (some (1, 19)) else (if x200000 = 4 then (some (256, 65535)) else (if x200000 = 5 then (some (0, 7)) else (some (0, 255)))))
def impl_Step_ranges.f (k : Nat) (a0_0 : Int) (a0_1 : Int) (a0_2 : Int) (a0_3 : Int) (a0_4 : Int) (a0_5 : Int) (a1 : Int) : Option (Int × Int) := if a1 = 111 then (some (1, 10)) else (if a1 = 100 then (impl_Step_ranges.j0 k a1 true a0_0 a0_1 a0_2 a0_3 a0_4 a0_5) else (impl_Step_ranges.j0 k a1 (a1 == 115) a0_0 a0_1 a0_2 a0_3 a0_4 a0_5))
set_option maxHeartbeats 8000000 in
set_option maxRecDepth 100000 in
theorem impl_Step_ranges.calls (k : Nat) (a0_0 : Int) (a0_1 : Int) (a0_2 : Int) (a0_3 : Int) (a0_4 : Int) (a0_5 : Int) (a1 : Int) (r1 : Int) (r2 : Int) (w : World) (h : impl_Step_ranges.f k a0_0 a0_1 a0_2 a0_3 a0_4 a0_5 a1 = some (r1, r2)) :
  Calls Try.prog 87 #[.agg #[.int .i64 a0_0, .int .i64 a0_1, .int .i64 a0_2, .int .i64 a0_3, .int .i64 a0_4, .int .i64 a0_5], .int .u8 a1] w fun e w' => e = .returned (.tuple #[.int .i64 r1, .int .i64 r2]) ∧ Below w.heap.size w w' := by
 have hu51 := Try.underlying51
 have HB := am_ (Below.refl w.heap.size w)
 have H : (if a1 = 111 then (some (1, 10)) else (if a1 = 100 then (impl_Step_ranges.j0 k a1 true a0_0 a0_1 a0_2 a0_3 a0_4 a0_5) else (impl_Step_ranges.j0 k a1 (a1 == 115) a0_0 a0_1 a0_2 a0_3 a0_4 a0_5))) = some (r1, r2) := h
 clear h
 by_cases c3 : a1 = 111
 ·rw [if_pos c3] at H
  have c3b0 : (a1 == 111) = true := beq_iff_eq.mpr c3
  have c3b1 : (a1 != 111) = false := bne_eq_false_iff_eq.mpr c3
  clear c3
  simp only [Option.some.injEq, Prod.mk.injEq] at H
  obtain ⟨rfl, rfl⟩ := H
  go_enter Try.func87, Try.ntmps87
  go_wp2_with (first | ((with_reducible refine gate_dst (N := 2) rfl ?_); refine boxq_ (N := 2) (cs := #[.int .i64 a0_0, .int .i64 a0_1, .int .i64 a0_2, .int .i64 a0_3, .int .i64 a0_4, .int .i64 a0_5]) (t := 51) ?_; intro gb199 hg w4 hbox hb; have BK199 := am_ (hbox); have GW199 := gz_ hg; have GE199 := gz_ hg; replace HB := bs_ hb; clear hb hbox hg))
  go_ret2
  exact ⟨by first | rfl | (simp [errW_none, errW_some] <;> rfl) | (simp [*, errW_none, errW_some] <;> rfl), bq_⟩
 ·rw [if_neg c3] at H
  have c3b0 : (a1 == 111) = false := beq_eq_false_iff_ne.mpr c3
  have c3b1 : (a1 != 111) = true := bne_iff_ne.mpr c3
  have HC5 := am_ H
  clear H
  go_enter Try.func87, Try.ntmps87
  go_upto_region 3 with (first | ((with_reducible refine gate_dst (N := 2) rfl ?_); refine boxq_ (N := 2) (cs := #[.int .i64 a0_0, .int .i64 a0_1, .int .i64 a0_2, .int .i64 a0_3, .int .i64 a0_4, .int .i64 a0_5]) (t := 51) ?_; intro gb199 hg w6 hbox hb; have BK199 := am_ (hbox); have GW199 := gz_ hg; have GE199 := gz_ hg; replace HB := bs_ hb; clear hb hbox hg))
  (try simp only [Act.put, List.setIfInBounds_toArray, List.set_cons_zero, List.set_cons_succ])
  go_cut [9] (fun v9 wc => ∃ (kq : Nat) (x9_4 : Bool), v9 = .bool x9_4 ∧ Aside0 (impl_Step_ranges.j0 kq a1 x9_4 a0_0 a0_1 a0_2 a0_3 a0_4 a0_5 = some (r1, r2)) ∧ Aside0 (kq ≤ k) ∧ Aside0 (wc.heap[gb199]? = some (.cells #[.int .i64 a0_0, .int .i64 a0_1, .int .i64 a0_2, .int .i64 a0_3, .int .i64 a0_4, .int .i64 a0_5] 51 (0, 0))) ∧ Aside0 (Below w.heap.size w wc))
  case first =>
   have H := HC5.out
   clear HC5
   by_cases c7 : a1 = 100
   ·rw [if_pos c7] at H
    have c7b0 : (a1 == 100) = true := beq_iff_eq.mpr c7
    have c7b1 : (a1 != 100) = false := bne_eq_false_iff_eq.mpr c7
    clear c7
    (first | rw [c7b0] | (simp only [i64_w, i32_w]; rw [c7b0]) | skip)
    have H' := am_ H
    clear H
    go_wp2
    go_meet
    case rel => exact ⟨_, (true), y14_, H', ⟨by first | omega | exact Nat.le_refl _⟩, ⟨bk_ BK199.out⟩, ⟨bq_⟩⟩
   ·rw [if_neg c7] at H
    have c7b0 : (a1 == 100) = false := beq_eq_false_iff_ne.mpr c7
    have c7b1 : (a1 != 100) = true := bne_iff_ne.mpr c7
    (first | rw [c7b0] | (simp only [i64_w, i32_w]; rw [c7b0]) | skip)
    have H' := am_ H
    clear H
    go_wp2
    go_meet
    case rel => exact ⟨_, ((a1 == 115)), y14_, H', ⟨by first | omega | exact Nat.le_refl _⟩, ⟨bk_ BK199.out⟩, ⟨bq_⟩⟩
  case rest =>
   clear HC5
   try clear p2
   try clear c3
   try clear c3b0
   try clear c3b1
   try clear c7
   try clear c7b0
   try clear c7b1
   obtain ⟨kq, x9_4, rfl, HA, HJ4, BK199, HB⟩ := hcut
   cases kq with
   | zero => exact absurd HA.out (by simp [impl_Step_ranges.j0])
   | succ kj4 =>
    have H := HA.out
    clear HA
    simp only [impl_Step_ranges.j0] at H
    by_cases c8 : x9_4 = true
    ·subst c8
     have H1 : (some (0, 5)) = some (r1, r2) := by rw [if_pos rfl] at H; exact H
     clear H
     have H := H1
     clear H1
     simp only [Option.some.injEq, Prod.mk.injEq] at H
     obtain ⟨rfl, rfl⟩ := H
     go_wp2
     go_ret2
     exact ⟨by first | rfl | (simp [errW_none, errW_some] <;> rfl) | (simp [*, errW_none, errW_some] <;> rfl), bq_⟩
    ·replace c8 := Bool.eq_false_iff.mpr c8
     subst c8
     have H1 : (if a1 = 116 then (some (1, 19)) else (if a0_0 = 4 then (some (256, 65535)) else (if a0_0 = 5 then (some (0, 7)) else (some (0, 255))))) = some (r1, r2) := by rw [if_neg (show ¬ (false = true) by decide)] at H; exact H
     clear H
     have H := H1
     clear H1
     by_cases c9 : a1 = 116
     ·rw [if_pos c9] at H
      have c9b0 : (a1 == 116) = true := beq_iff_eq.mpr c9
      have c9b1 : (a1 != 116) = false := bne_eq_false_iff_eq.mpr c9
      clear c9
      simp only [Option.some.injEq, Prod.mk.injEq] at H
      obtain ⟨rfl, rfl⟩ := H
      go_wp2
      go_ret2
      exact ⟨by first | rfl | (simp [errW_none, errW_some] <;> rfl) | (simp [*, errW_none, errW_some] <;> rfl), bq_⟩
     ·rw [if_neg c9] at H
      have c9b0 : (a1 == 116) = false := beq_eq_false_iff_ne.mpr c9
      have c9b1 : (a1 != 116) = true := bne_iff_ne.mpr c9
      by_cases c10 : a0_0 = 4
      ·rw [if_pos c10] at H
       have c10b0 : (a0_0 == 4) = true := beq_iff_eq.mpr c10
       have c10b1 : (a0_0 != 4) = false := bne_eq_false_iff_eq.mpr c10
       clear c10
       simp only [Option.some.injEq, Prod.mk.injEq] at H
       obtain ⟨rfl, rfl⟩ := H
       have hcz11_0 := cq_ BK199.out 0 (.int .i64 a0_0)
       have hcz11_1 := cq_ BK199.out 1 (.int .i64 a0_1)
       have hcz11_2 := cq_ BK199.out 2 (.int .i64 a0_2)
       have hcz11_3 := cq_ BK199.out 3 (.int .i64 a0_3)
       have hcz11_4 := cq_ BK199.out 4 (.int .i64 a0_4)
       have hcz11_5 := cq_ BK199.out 5 (.int .i64 a0_5)
       have hfz11_0 := blk_frozen BK199.out 0
       have hfz11_1 := blk_frozen BK199.out 1
       have hfz11_2 := blk_frozen BK199.out 2
       have hfz11_3 := blk_frozen BK199.out 3
       have hfz11_4 := blk_frozen BK199.out 4
       have hfz11_5 := blk_frozen BK199.out 5
       go_wp2
       go_ret2
       exact ⟨by first | rfl | (simp [errW_none, errW_some] <;> rfl) | (simp [*, errW_none, errW_some] <;> rfl), bq_⟩
      ·rw [if_neg c10] at H
       have c10b0 : (a0_0 == 4) = false := beq_eq_false_iff_ne.mpr c10
       have c10b1 : (a0_0 != 4) = true := bne_iff_ne.mpr c10
       by_cases c12 : a0_0 = 5
       ·rw [if_pos c12] at H
        have c12b0 : (a0_0 == 5) = true := beq_iff_eq.mpr c12
        have c12b1 : (a0_0 != 5) = false := bne_eq_false_iff_eq.mpr c12
        clear c12
        simp only [Option.some.injEq, Prod.mk.injEq] at H
        obtain ⟨rfl, rfl⟩ := H
        have hcz13_0 := cq_ BK199.out 0 (.int .i64 a0_0)
        have hcz13_1 := cq_ BK199.out 1 (.int .i64 a0_1)
        have hcz13_2 := cq_ BK199.out 2 (.int .i64 a0_2)
        have hcz13_3 := cq_ BK199.out 3 (.int .i64 a0_3)
        have hcz13_4 := cq_ BK199.out 4 (.int .i64 a0_4)
        have hcz13_5 := cq_ BK199.out 5 (.int .i64 a0_5)
        have hfz13_0 := blk_frozen BK199.out 0
        have hfz13_1 := blk_frozen BK199.out 1
        have hfz13_2 := blk_frozen BK199.out 2
        have hfz13_3 := blk_frozen BK199.out 3
        have hfz13_4 := blk_frozen BK199.out 4
        have hfz13_5 := blk_frozen BK199.out 5
        go_wp2
        go_ret2
        exact ⟨by first | rfl | (simp [errW_none, errW_some] <;> rfl) | (simp [*, errW_none, errW_some] <;> rfl), bq_⟩
       ·rw [if_neg c12] at H
        have c12b0 : (a0_0 == 5) = false := beq_eq_false_iff_ne.mpr c12
        have c12b1 : (a0_0 != 5) = true := bne_iff_ne.mpr c12
        simp only [Option.some.injEq, Prod.mk.injEq] at H
        obtain ⟨rfl, rfl⟩ := H
        have hcz14_0 := cq_ BK199.out 0 (.int .i64 a0_0)
        have hcz14_1 := cq_ BK199.out 1 (.int .i64 a0_1)
        have hcz14_2 := cq_ BK199.out 2 (.int .i64 a0_2)
        have hcz14_3 := cq_ BK199.out 3 (.int .i64 a0_3)
        have hcz14_4 := cq_ BK199.out 4 (.int .i64 a0_4)
        have hcz14_5 := cq_ BK199.out 5 (.int .i64 a0_5)
        have hfz14_0 := blk_frozen BK199.out 0
        have hfz14_1 := blk_frozen BK199.out 1
        have hfz14_2 := blk_frozen BK199.out 2
        have hfz14_3 := blk_frozen BK199.out 3
        have hfz14_4 := blk_frozen BK199.out 4
        have hfz14_5 := blk_frozen BK199.out 5
        go_wp2
        go_ret2
        exact ⟨by first | rfl | (simp [errW_none, errW_some] <;> rfl) | (simp [*, errW_none, errW_some] <;> rfl), bq_⟩
end Go.Proofs.Ytcmhkgpalfljbaa.PPA
