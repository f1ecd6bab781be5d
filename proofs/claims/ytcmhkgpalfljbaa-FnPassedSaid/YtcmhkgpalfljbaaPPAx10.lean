import Derived.Test.YtcmhkgpalfljbaaPPAx0
import Derived.Test.YtcmhkgpalfljbaaPPAx3
import Derived.Test.YtcmhkgpalfljbaaPPAx5
import Derived.Test.YtcmhkgpalfljbaaPPAx6
import Derived.Test.YtcmhkgpalfljbaaPPAx8
import Derived.Test.YtcmhkgpalfljbaaPPAx9
namespace Go.Proofs.Ytcmhkgpalfljbaa.PPA
open Go.RowKit Go.Proofs.YtcmhkgpalfljbaaW.PrintWords Go.Proofs.YtcmhkgpalfljbaaW.PrintLast Go.Proofs.YtcmhkgpalfljbaaW.PrintMore
attribute [local go_sem] max2_int min2_int max_two min_two max_three min_three max_four min_four   -- for this text's walks alone
set_option linter.unusedVariables false
set_option linter.unusedSimpArgs false
def spec_NearestOf.l0 : Nat → List Int → List (List Int) → Int → Int → Option (List Int × Bool)
 | 0, _, _, _, _ => none
 | k + 1, x4, x11, x12, x13 => if x13 < x12 then (if 0 ≤ x13 then (if x13 < (x11.length : Int) then (if ((rd_L4 x11 x13).length : Int) > 1 then (if 0 ≤ (wrap64 (((rd_L4 x11 x13).length : Int) - 2)) then (if (wrap64 (((rd_L4 x11 x13).length : Int) - 2)) < ((rd_L4 x11 x13).length : Int) then (if x4.length < 17592186044416 then (spec_NearestOf.l0 k (x4 ++ [rd (rd_L4 x11 x13) (wrap64 (((rd_L4 x11 x13).length : Int) - 2))]) x11 x12 (wrap64 (x13 + 1))) else (none)) else (none)) else (none)) else (if x4.length < 17592186044416 then (spec_NearestOf.l0 k (x4 ++ [(-1)]) x11 x12 (wrap64 (x13 + 1))) else (none))) else (none)) else (none)) else (some (x4, true))
def spec_NearestOf.f (k : Nat) (l0 : List (S51)) : Option (List Int × Bool) := (spec_GoodProgram.f k l0).bind fun t282 => (if t282 = true then ((spec_l11Must.f k l0).bind fun t283 => (spec_NearestOf.l0 k ([] : List Int) t283 (t283.length : Int) 0)) else (some (([] : List Int), false)))
set_option maxHeartbeats 8000000 in
set_option maxRecDepth 100000 in
theorem spec_NearestOf.calls (k : Nat) (A0 : Option Addr) (c0 : Nat) (l0 : List (S51)) (r1 : List Int) (r2 : Bool) (w : World) (hr0 : Kd.C k51 w A0 l0.length l0) (hc0 : l0.length ≤ c0) (h : spec_NearestOf.f k l0 = some (r1, r2)) :
  Calls Try.prog 31 #[.slice A0 l0.length c0] w fun e w' => ∃ v0_ : Value, e = .returned (.tuple #[v0_, .bool r2]) ∧ Kd.R (Kd.int .i64) 3 w' w.heap.size (fun _ => True) v0_ r1 ∧ Below w.heap.size w w' := by
 have HR0 := am_ hr0
 have HC0 := am_ hc0
 clear hr0 hc0
 have HB := am_ (Below.refl w.heap.size w)
 have H : ((spec_GoodProgram.f k l0).bind fun t282 => (if t282 = true then ((spec_l11Must.f k l0).bind fun t283 => (spec_NearestOf.l0 k ([] : List Int) t283 (t283.length : Int) 0)) else (some (([] : List Int), false)))) = some (r1, r2) := h
 clear h
 replace H := Option.bind_eq_some_iff.mp H
 obtain ⟨t282, A20, H⟩ := H
 replace H : (if t282 = true then ((spec_l11Must.f k l0).bind fun t283 => (spec_NearestOf.l0 k ([] : List Int) t283 (t283.length : Int) 0)) else (some (([] : List Int), false))) = some (r1, r2) := H
 have A2 := am_ A20
 clear A20
 by_cases c3 : t282 = true
 ·subst c3
  have H1 : ((spec_l11Must.f k l0).bind fun t283 => (spec_NearestOf.l0 k ([] : List Int) t283 (t283.length : Int) 0)) = some (r1, r2) := by rw [if_pos rfl] at H; exact H
  clear H
  have H := H1
  clear H1
  replace H := Option.bind_eq_some_iff.mp H
  obtain ⟨t283, A40, H⟩ := H
  replace H : (spec_NearestOf.l0 k ([] : List Int) t283 (t283.length : Int) 0) = some (r1, r2) := H
  have A4 := am_ A40
  clear A40
  have H' := am_ H
  clear H
  go_enter Try.func31, Try.ntmps31
  go_wp2_with (first | ((with_reducible refine gl_ 47 rfl ?_); refine goesM_ (some 8) Try.func47 #[.slice A0 l0.length c0] ?_; (with_reducible refine (spec_GoodProgram.calls k _ _ l0 true _ ?side1 ?side2 A2.out).mono ?_); (case side1 => exact cm_ HR0.out); (case side2 => exact HC0.out); rintro e w5 ⟨rfl, hb⟩; refine ⟨_, rfl, ?_⟩; replace HB := bs_ hb; (try clear hb)) | ((with_reducible refine gl_ 62 rfl ?_); refine goesM_ (some 11) Try.func62 #[.slice A0 l0.length c0] ?_; (with_reducible refine (spec_l11Must.calls k _ _ l0 t283 _ ?side1 ?side2 A4.out).mono ?_); (case side1 => exact cm_ (Kd.C_below HR0.out HB.out)); (case side2 => exact HC0.out); rintro e w6 ⟨v284, rfl, ho0, hb⟩; refine ⟨_, rfl, ?_⟩; have HO285 := am_ (Kd.S_lower ho0 (below_size (bq_))); replace HB := bs_ hb; (try clear hb); (try clear ho0); obtain ⟨Ao7, co7, eo7⟩ := Kd.S_slice HO285.out; subst eo7))
  go_loopg [4, 13] k (fun kq v4 v13 w' => ∃ (x4_1 : List Int) (x13_1 : Int), v13 = .int .i64 x13_1 ∧ Aside0 (spec_NearestOf.l0 kq x4_1 t283 (t283.length : Int) x13_1 = some (r1, r2)) ∧ Aside0 (kq ≤ k) ∧ Aside0 (Kd.R (Kd.int .i64) 3 w' w.heap.size (fun _ => True) v4 x4_1) ∧ Aside0 (Kd.S (Kd.slice 3 (Kd.int .i64)) 30 w' w.heap.size (fun k_ => some k_ ≠ (v4 : Value).ownBlock) (.slice Ao7 t283.length co7) t283) ∧ Aside0 (Below w.heap.size w w'))
  case atStart => exact ⟨(([] : List Int)), (0), y14_, H', ⟨Nat.le_refl _⟩, ⟨by first | exact Kd.R_nil _ _ _ _ _ | exact Kd.N_nil _ _ _ _ _ | exact Kd.V_nil _ _ _ _ _ | exact Kd.Q_nil _ _ _ _ _ | exact Kd.S_nil _ _ _ _ _⟩, ⟨by (with_reducible repeat (first | apply Kd.S_alloc | apply Kd.S_drewN | apply Kd.S_drew)); exact Kd.S_mono HO285.out (fun _ hk => (by simp [Value.ownBlock]))⟩, ⟨bq_⟩⟩
  case round =>
   clear H'
   try clear p2
   try clear c3
   try clear c4
   try clear c6
   obtain ⟨x4_1, x13_1, rfl, HA, HK1, HO_4, HO_11, HB⟩ := hrel
   cases gk with
   | zero => exact absurd HA.out (by simp [spec_NearestOf.l0])
   | succ k1 =>
    have H := HA.out
    clear HA
    simp only [spec_NearestOf.l0] at H
    by_cases c8 : x13_1 < (t283.length : Int)
    ·rw [if_pos c8] at H
     have c8b0 : decide (x13_1 < (t283.length : Int)) = true := decide_eq_true c8
     clear c8
     by_cases c9 : 0 ≤ x13_1
     ·rw [if_pos c9] at H
      have c9b0 : decide (0 ≤ x13_1) = true := decide_eq_true c9
      clear c9
      by_cases c10 : x13_1 < (t283.length : Int)
      ·rw [if_pos c10] at H
       have c10b0 : decide (x13_1 < (t283.length : Int)) = true := decide_eq_true c10
       clear c10
       by_cases c11 : ((rd_L4 t283 x13_1).length : Int) > 1
       ·rw [if_pos c11] at H
        have c11b0 : decide (1 < ((rd_L4 t283 x13_1).length : Int)) = true := decide_eq_true c11
        have c11b1 : decide (1 < (rd_L4 t283 x13_1).length) = true := decide_eq_true (by omega)
        clear c11
        obtain ⟨ji12, hji12⟩ : ∃ j_ : Int, (wrap64 (((rd_L4 t283 x13_1).length : Int) - 2)) = j_ := ⟨_, rfl⟩
        replace H : (if 0 ≤ (ji12) then (if (ji12) < ((rd_L4 t283 x13_1).length : Int) then (if x4_1.length < 17592186044416 then (spec_NearestOf.l0 k1 (x4_1 ++ [rd (rd_L4 t283 x13_1) (ji12)]) t283 (t283.length : Int) (wrap64 (x13_1 + 1))) else (none)) else (none)) else (none)) = some (r1, r2) := by first | (rw [hji12] at H; exact H) | (simp only [hji12] at H ⊢; exact H)
        have hji12w : (IntKind.i64.wrap (((rd_L4 t283 x13_1).length : Int) - 2)) = ji12 := (i64_w _).trans hji12
        by_cases c13 : 0 ≤ (ji12)
        ·rw [if_pos c13] at H
         have c13b0 : decide (0 ≤ (ji12)) = true := decide_eq_true c13
         clear c13
         by_cases c14 : (ji12) < ((rd_L4 t283 x13_1).length : Int)
         ·rw [if_pos c14] at H
          have c14b0 : decide ((ji12) < ((rd_L4 t283 x13_1).length : Int)) = true := decide_eq_true c14
          clear c14
          by_cases c15 : x4_1.length < 17592186044416
          ·rw [if_pos c15] at H
           have LMc15 := am_ c15
           clear c15
           obtain ⟨y288, hy288⟩ : ∃ y_ : List Int, y_ = (x4_1 ++ [rd (rd_L4 t283 x13_1) (ji12)]) := ⟨_, rfl⟩
           replace H : (spec_NearestOf.l0 k1 y288 t283 (t283.length : Int) (wrap64 (x13_1 + 1))) = some (r1, r2) := by first | (rw [hy288]; with_reducible exact H) | (have H2_ := (Option.bind_some _ _).symm.trans H; rw [hy288]; with_reducible exact H2_) | (have H2_ := (Option.bind_some _ _).symm.trans H; with_reducible exact H2_) | with_reducible exact H | (rw [hy288]; exact H) | exact H
           have Ny288 := am_ hy288
           clear hy288
           have H' := am_ H
           clear H
           have p286 : 0 ≤ (x13_1 : Int) := od_
           have q286 : x13_1 < (t283.length : Int) := od_
           obtain ⟨ad286, A286_0, c286_0, e286, hx286_0, hl286_0, hi286_0⟩ := at_L4 (Kd.S_reads' HO_11.out).2.2 x13_1 p286 q286
           cases e286
           obtain ⟨ce286, hce286, hMe286, hcc286⟩ := Kd.S_get HO_11.out [] x13_1 p286 (by first | exact q286 | exact od_ | (have e_ := (Kd.S_reads' HO_11.out).1; omega))
           obtain ⟨ve286_0, rfl, ge286_0⟩ := hMe286
           have hv286_0 := hcc286 0 _ rfl
           rw [Nat.add_zero, show ((Kd.slice 3 (Kd.int .i64))).sz = 1 from rfl, Nat.mul_one] at hv286_0
           replace hv286_0 := Option.some.inj (hv286_0.symm.trans hx286_0)
           rw [hv286_0] at ge286_0
           have HL286_0 := am_ (show Kd.R (Kd.int .i64) 3 _ _ _ _ (rd_L4 t283 x13_1) from ge286_0)
           clear hv286_0 ge286_0 hcc286 hce286
           have HR286_0 := am_ hi286_0
           have HC286_0 := am_ hl286_0
           clear hi286_0 hl286_0
           replace p286 := eq_true p286
           replace q286 := eq_true q286
           have p287 : 0 ≤ ((ji12) : Int) := od_
           have q287 : (ji12) < ((rd_L4 t283 x13_1).length : Int) := od_
           obtain ⟨ad287, e287, hx287_0⟩ := Kd.at_int (by repeat (first | (with_reducible exact HR286_0.out) | (with_reducible refine Kd.C_alloc ?_ _) | (with_reducible refine Kd.C_drewN ?_ _) | (with_reducible refine Kd.C_drew ?_) | exact HR286_0.out)) (ji12) p287 q287
           cases e287
           replace p287 := eq_true p287
           replace q287 := eq_true q287
           go_wp2_with (first | ((with_reducible refine gate_builtin (b := .append) (xs := #[.tmp 20, .tmp 27]) rfl ?_); at_builtin; refine Kd.R_append (Kd.int .i64) (w0 := w) w.heap.size rfl (.tmp 20) (.tmp 27) 30 3 (.int .i64 0) 8 rfl Try.underlying30 info3 rfl (by decide) (by omega) u4 x4_1 (rd (rd_L4 t283 x13_1) (ji12)) [.int .i64 (rd (rd_L4 t283 x13_1) (ji12))] (fun _ => True) (fun _ => False) rfl rfl ?aP (fun _ hk => hk.elim) ?aF ?aO ?aB ?aS ?aL ?_; (case aP => exact rfl); (case aB => exact (bq_)); (case aF => exact (fun _ _ => trivial)); (case aO => exact (rq_ HO_4.out)); (case aS => exact (below_size (bq_))); (case aL => have := LMc15.out; omega); intro v289 w16 ho hb hg hat; rw [← Ny288.out] at ho; replace HO_11 := am_ (Kd.S_after (ok := (fun _ => True)) (by (with_reducible repeat (first | apply Kd.S_alloc | apply Kd.S_drewN | apply Kd.S_drew)); exact Kd.S_mono HO_11.out (fun _ hk => ⟨trivial, hk⟩)) hg hat); replace HL286_0 := am_ (Kd.R_after (ok := (fun k_ => some k_ ≠ (.slice (some ad286) t283.length co7 : Value).ownBlock)) (rq_ (Kd.R_mono HL286_0.out (fun _ hk => ⟨hk.2, hk.1⟩))) hg hat); replace HB := am_ (hb); have HO290 := am_ (ho); clear HO_4; clear ho hb hg hat))
           go_roundg k1
           case measure => have := HK1.out; omega
           case rel => exact ⟨(y288), (wrap64 (x13_1 + 1)), y14_, H', ⟨by have := HK1.out; omega⟩, ⟨rq_ HO290.out⟩, ⟨by (with_reducible repeat (first | apply Kd.S_alloc | apply Kd.S_drewN | apply Kd.S_drew)); exact Kd.S_mono HO_11.out (fun _ hk => hk.2)⟩, ⟨bq_⟩⟩
          ·rw [if_neg c15] at H
           exact absurd H (by simp)
         ·rw [if_neg c14] at H
          exact absurd H (by simp)
        ·rw [if_neg c13] at H
         exact absurd H (by simp)
       ·rw [if_neg c11] at H
        have c11b0 : decide (1 < ((rd_L4 t283 x13_1).length : Int)) = false := decide_eq_false c11
        have c11b1 : decide (1 < (rd_L4 t283 x13_1).length) = false := decide_eq_false (by omega)
        clear c11
        by_cases c17 : x4_1.length < 17592186044416
        ·rw [if_pos c17] at H
         have LMc17 := am_ c17
         clear c17
         obtain ⟨y291, hy291⟩ : ∃ y_ : List Int, y_ = (x4_1 ++ [(-1)]) := ⟨_, rfl⟩
         replace H : (spec_NearestOf.l0 k1 y291 t283 (t283.length : Int) (wrap64 (x13_1 + 1))) = some (r1, r2) := by first | (rw [hy291]; with_reducible exact H) | (have H2_ := (Option.bind_some _ _).symm.trans H; rw [hy291]; with_reducible exact H2_) | (have H2_ := (Option.bind_some _ _).symm.trans H; with_reducible exact H2_) | with_reducible exact H | (rw [hy291]; exact H) | exact H
         have Ny291 := am_ hy291
         clear hy291
         have H' := am_ H
         clear H
         have p286 : 0 ≤ (x13_1 : Int) := od_
         have q286 : x13_1 < (t283.length : Int) := od_
         obtain ⟨ad286, A286_0, c286_0, e286, hx286_0, hl286_0, hi286_0⟩ := at_L4 (Kd.S_reads' HO_11.out).2.2 x13_1 p286 q286
         cases e286
         obtain ⟨ce286, hce286, hMe286, hcc286⟩ := Kd.S_get HO_11.out [] x13_1 p286 (by first | exact q286 | exact od_ | (have e_ := (Kd.S_reads' HO_11.out).1; omega))
         obtain ⟨ve286_0, rfl, ge286_0⟩ := hMe286
         have hv286_0 := hcc286 0 _ rfl
         rw [Nat.add_zero, show ((Kd.slice 3 (Kd.int .i64))).sz = 1 from rfl, Nat.mul_one] at hv286_0
         replace hv286_0 := Option.some.inj (hv286_0.symm.trans hx286_0)
         rw [hv286_0] at ge286_0
         have HL286_0 := am_ (show Kd.R (Kd.int .i64) 3 _ _ _ _ (rd_L4 t283 x13_1) from ge286_0)
         clear hv286_0 ge286_0 hcc286 hce286
         have HR286_0 := am_ hi286_0
         have HC286_0 := am_ hl286_0
         clear hi286_0 hl286_0
         replace p286 := eq_true p286
         replace q286 := eq_true q286
         go_wp2_with (first | ((with_reducible refine gate_builtin (b := .append) (xs := #[.tmp 29, .tmp 30]) rfl ?_); at_builtin; refine Kd.R_append (Kd.int .i64) (w0 := w) w.heap.size rfl (.tmp 29) (.tmp 30) 30 3 (.int .i64 0) 8 rfl Try.underlying30 info3 rfl (by decide) (by omega) u4 x4_1 (-1) [.int .i64 (-1)] (fun _ => True) (fun _ => False) rfl rfl ?aP (fun _ hk => hk.elim) ?aF ?aO ?aB ?aS ?aL ?_; (case aP => exact rfl); (case aB => exact (bq_)); (case aF => exact (fun _ _ => trivial)); (case aO => exact (rq_ HO_4.out)); (case aS => exact (below_size (bq_))); (case aL => have := LMc17.out; omega); intro v292 w18 ho hb hg hat; rw [← Ny291.out] at ho; replace HO_11 := am_ (Kd.S_after (ok := (fun _ => True)) (by (with_reducible repeat (first | apply Kd.S_alloc | apply Kd.S_drewN | apply Kd.S_drew)); exact Kd.S_mono HO_11.out (fun _ hk => ⟨trivial, hk⟩)) hg hat); replace HL286_0 := am_ (Kd.R_after (ok := (fun k_ => some k_ ≠ (.slice (some ad286) t283.length co7 : Value).ownBlock)) (rq_ (Kd.R_mono HL286_0.out (fun _ hk => ⟨hk.2, hk.1⟩))) hg hat); replace HB := am_ (hb); have HO293 := am_ (ho); clear HO_4; clear ho hb hg hat))
         go_roundg k1
         case measure => have := HK1.out; omega
         case rel => exact ⟨(y291), (wrap64 (x13_1 + 1)), y14_, H', ⟨by have := HK1.out; omega⟩, ⟨rq_ HO293.out⟩, ⟨by (with_reducible repeat (first | apply Kd.S_alloc | apply Kd.S_drewN | apply Kd.S_drew)); exact Kd.S_mono HO_11.out (fun _ hk => hk.2)⟩, ⟨bq_⟩⟩
        ·rw [if_neg c17] at H
         exact absurd H (by simp)
      ·rw [if_neg c10] at H
       exact absurd H (by simp)
     ·rw [if_neg c9] at H
      exact absurd H (by simp)
    ·rw [if_neg c8] at H
     have c8b0 : decide (x13_1 < (t283.length : Int)) = false := decide_eq_false c8
     clear c8
     simp only [Option.some.injEq, Prod.mk.injEq] at H
     obtain ⟨rfl, rfl⟩ := H
     go_wp2
     go_ret2
     exact ⟨_, by first | rfl | (simp [errW_none, errW_some] <;> rfl) | (simp [*, errW_none, errW_some] <;> rfl), rq_ HO_4.out, bq_⟩
 ·replace c3 := Bool.eq_false_iff.mpr c3
  subst c3
  have H1 : (some (([] : List Int), false)) = some (r1, r2) := by rw [if_neg (show ¬ (false = true) by decide)] at H; exact H
  clear H
  have H := H1
  clear H1
  simp only [Option.some.injEq, Prod.mk.injEq] at H
  obtain ⟨rfl, rfl⟩ := H
  go_enter Try.func31, Try.ntmps31
  go_wp2_with (first | ((with_reducible refine gl_ 47 rfl ?_); refine goesM_ (some 8) Try.func47 #[.slice A0 l0.length c0] ?_; (with_reducible refine (spec_GoodProgram.calls k _ _ l0 false _ ?side1 ?side2 A2.out).mono ?_); (case side1 => exact cm_ HR0.out); (case side2 => exact HC0.out); rintro e w19 ⟨rfl, hb⟩; refine ⟨_, rfl, ?_⟩; replace HB := bs_ hb; (try clear hb)))
  go_ret2
  exact ⟨_, by first | rfl | (simp [errW_none, errW_some] <;> rfl) | (simp [*, errW_none, errW_some] <;> rfl), by first | exact Kd.R_nil _ _ _ _ _ | exact Kd.N_nil _ _ _ _ _ | exact Kd.V_nil _ _ _ _ _ | exact Kd.Q_nil _ _ _ _ _ | exact Kd.S_nil _ _ _ _ _, bq_⟩
def impl_NearestOf.l0 : Nat → List (S51) → List Bool → List Int → Int → Int → Option (List Int × Bool)
 | 0, _, _, _, _, _ => none
 | k + 1, x0, x4, x5, x15, x16 => if x16 < x15 then (if 0 ≤ x16 then (if x16 < (x4.length : Int) then (if rdOf false x4 x16 = true then (if x16 > 0 then ((impl_mustPass.f k x0 x16).bind fun t299 => (if 0 ≤ (wrap64 ((t299.length : Int) - 2)) then (if (wrap64 ((t299.length : Int) - 2)) < (t299.length : Int) then (if x5.length < 17592186044416 then (impl_NearestOf.l0 k x0 x4 (x5 ++ [rd t299 (wrap64 ((t299.length : Int) - 2))]) x15 (wrap64 (x16 + 1))) else (none)) else (none)) else (none))) else (if x5.length < 17592186044416 then (impl_NearestOf.l0 k x0 x4 (x5 ++ [(-1)]) x15 (wrap64 (x16 + 1))) else (none))) else (if x5.length < 17592186044416 then (impl_NearestOf.l0 k x0 x4 (x5 ++ [(-1)]) x15 (wrap64 (x16 + 1))) else (none))) else (none)) else (none)) else (some (x5, true))
def impl_NearestOf.f (k : Nat) (l0 : List (S51)) : Option (List Int × Bool) := (impl_GoodProgram.f k l0).bind fun t294 => (if t294 = true then ((impl_reachable.f k l0 0).bind fun t295 => (impl_NearestOf.l0 k l0 t295 ([] : List Int) (l0.length : Int) 0)) else (some (([] : List Int), false)))
set_option maxHeartbeats 8000000 in
set_option maxRecDepth 100000 in
theorem impl_NearestOf.calls (k : Nat) (A0 : Option Addr) (c0 : Nat) (l0 : List (S51)) (r1 : List Int) (r2 : Bool) (w : World) (hr0 : Kd.C k51 w A0 l0.length l0) (hc0 : l0.length ≤ c0) (h : impl_NearestOf.f k l0 = some (r1, r2)) :
  Calls Try.prog 32 #[.slice A0 l0.length c0] w fun e w' => ∃ v0_ : Value, e = .returned (.tuple #[v0_, .bool r2]) ∧ Kd.R (Kd.int .i64) 3 w' w.heap.size (fun _ => True) v0_ r1 ∧ Below w.heap.size w w' := by
 have HR0 := am_ hr0
 have HC0 := am_ hc0
 clear hr0 hc0
 have HB := am_ (Below.refl w.heap.size w)
 have H : ((impl_GoodProgram.f k l0).bind fun t294 => (if t294 = true then ((impl_reachable.f k l0 0).bind fun t295 => (impl_NearestOf.l0 k l0 t295 ([] : List Int) (l0.length : Int) 0)) else (some (([] : List Int), false)))) = some (r1, r2) := h
 clear h
 replace H := Option.bind_eq_some_iff.mp H
 obtain ⟨t294, A20, H⟩ := H
 replace H : (if t294 = true then ((impl_reachable.f k l0 0).bind fun t295 => (impl_NearestOf.l0 k l0 t295 ([] : List Int) (l0.length : Int) 0)) else (some (([] : List Int), false))) = some (r1, r2) := H
 have A2 := am_ A20
 clear A20
 by_cases c3 : t294 = true
 ·subst c3
  have H1 : ((impl_reachable.f k l0 0).bind fun t295 => (impl_NearestOf.l0 k l0 t295 ([] : List Int) (l0.length : Int) 0)) = some (r1, r2) := by rw [if_pos rfl] at H; exact H
  clear H
  have H := H1
  clear H1
  replace H := Option.bind_eq_some_iff.mp H
  obtain ⟨t295, A40, H⟩ := H
  replace H : (impl_NearestOf.l0 k l0 t295 ([] : List Int) (l0.length : Int) 0) = some (r1, r2) := H
  have A4 := am_ A40
  clear A40
  have H' := am_ H
  clear H
  go_enter Try.func32, Try.ntmps32
  go_wp2_with (first | ((with_reducible refine gl_ 49 rfl ?_); refine goesM_ (some 10) Try.func49 #[.slice A0 l0.length c0] ?_; (with_reducible refine (impl_GoodProgram.calls k _ _ l0 true _ ?side1 ?side2 A2.out).mono ?_); (case side1 => exact cm_ HR0.out); (case side2 => exact HC0.out); rintro e w5 ⟨rfl, hb⟩; refine ⟨_, rfl, ?_⟩; replace HB := bs_ hb; (try clear hb)) | ((with_reducible refine gl_ 50 rfl ?_); refine goesM_ (some 13) Try.func50 #[.slice A0 l0.length c0, .int .i64 0] ?_; (with_reducible refine (impl_reachable.calls k _ _ l0 0 t295 _ ?side1 ?side2 A4.out).mono ?_); (case side1 => exact cm_ (Kd.C_below HR0.out HB.out)); (case side2 => exact HC0.out); rintro e w6 ⟨v296, rfl, ho0, hb⟩; refine ⟨_, rfl, ?_⟩; have HO297 := am_ (Kd.R_lower ho0 (below_size (bq_))); replace HB := bs_ hb; (try clear hb); (try clear ho0)))
  go_loopg [5, 16] k (fun kq v5 v16 w' => ∃ (x5_1 : List Int) (x16_1 : Int), v16 = .int .i64 x16_1 ∧ Aside0 (impl_NearestOf.l0 kq l0 t295 x5_1 (l0.length : Int) x16_1 = some (r1, r2)) ∧ Aside0 (kq ≤ k) ∧ Aside0 (Kd.R Kd.bool 4 w' w.heap.size (fun _ => True) v296 t295) ∧ Aside0 (Kd.R (Kd.int .i64) 3 w' w.heap.size (fun _ => True) v5 x5_1) ∧ Aside0 (Below w.heap.size w w'))
  case atStart => exact ⟨(([] : List Int)), (0), y14_, H', ⟨Nat.le_refl _⟩, ⟨rq_ HO297.out⟩, ⟨by first | exact Kd.R_nil _ _ _ _ _ | exact Kd.N_nil _ _ _ _ _ | exact Kd.V_nil _ _ _ _ _ | exact Kd.Q_nil _ _ _ _ _ | exact Kd.S_nil _ _ _ _ _⟩, ⟨bq_⟩⟩
  case round =>
   clear H'
   try clear p2
   try clear c3
   try clear c4
   try clear c5
   obtain ⟨x5_1, x16_1, rfl, HA, HK1, HO_4, HO_5, HB⟩ := hrel
   cases gk with
   | zero => exact absurd HA.out (by simp [impl_NearestOf.l0])
   | succ k1 =>
    have H := HA.out
    clear HA
    simp only [impl_NearestOf.l0] at H
    by_cases c7 : x16_1 < (l0.length : Int)
    ·rw [if_pos c7] at H
     have c7b0 : decide (x16_1 < (l0.length : Int)) = true := decide_eq_true c7
     clear c7
     by_cases c8 : 0 ≤ x16_1
     ·rw [if_pos c8] at H
      have c8b0 : decide (0 ≤ x16_1) = true := decide_eq_true c8
      clear c8
      by_cases c9 : x16_1 < (t295.length : Int)
      ·rw [if_pos c9] at H
       have c9b0 : decide (x16_1 < (t295.length : Int)) = true := decide_eq_true c9
       clear c9
       obtain ⟨bq10, hbq10⟩ : ∃ b_ : Bool, b_ = (rdOf false t295 x16_1) := ⟨_, rfl⟩
       replace H : (if bq10 = true then (if x16_1 > 0 then ((impl_mustPass.f k1 l0 x16_1).bind fun t299 => (if 0 ≤ (wrap64 ((t299.length : Int) - 2)) then (if (wrap64 ((t299.length : Int) - 2)) < (t299.length : Int) then (if x5_1.length < 17592186044416 then (impl_NearestOf.l0 k1 l0 t295 (x5_1 ++ [rd t299 (wrap64 ((t299.length : Int) - 2))]) (l0.length : Int) (wrap64 (x16_1 + 1))) else (none)) else (none)) else (none))) else (if x5_1.length < 17592186044416 then (impl_NearestOf.l0 k1 l0 t295 (x5_1 ++ [(-1)]) (l0.length : Int) (wrap64 (x16_1 + 1))) else (none))) else (if x5_1.length < 17592186044416 then (impl_NearestOf.l0 k1 l0 t295 (x5_1 ++ [(-1)]) (l0.length : Int) (wrap64 (x16_1 + 1))) else (none))) = some (r1, r2) := by rw [← hbq10] at H; exact H
       have Nbq10 := am_ hbq10
       clear hbq10
       by_cases c11 : bq10 = true
       ·subst c11
        have H1 : (if x16_1 > 0 then ((impl_mustPass.f k1 l0 x16_1).bind fun t299 => (if 0 ≤ (wrap64 ((t299.length : Int) - 2)) then (if (wrap64 ((t299.length : Int) - 2)) < (t299.length : Int) then (if x5_1.length < 17592186044416 then (impl_NearestOf.l0 k1 l0 t295 (x5_1 ++ [rd t299 (wrap64 ((t299.length : Int) - 2))]) (l0.length : Int) (wrap64 (x16_1 + 1))) else (none)) else (none)) else (none))) else (if x5_1.length < 17592186044416 then (impl_NearestOf.l0 k1 l0 t295 (x5_1 ++ [(-1)]) (l0.length : Int) (wrap64 (x16_1 + 1))) else (none))) = some (r1, r2) := by rw [if_pos rfl] at H; exact H
        clear H
        have H := H1
        clear H1
        by_cases c12 : x16_1 > 0
        ·rw [if_pos c12] at H
         have c12b0 : decide (0 < x16_1) = true := decide_eq_true c12
         clear c12
         replace H := Option.bind_eq_some_iff.mp H
         obtain ⟨t299, A130, H⟩ := H
         replace H : (if 0 ≤ (wrap64 ((t299.length : Int) - 2)) then (if (wrap64 ((t299.length : Int) - 2)) < (t299.length : Int) then (if x5_1.length < 17592186044416 then (impl_NearestOf.l0 k1 l0 t295 (x5_1 ++ [rd t299 (wrap64 ((t299.length : Int) - 2))]) (l0.length : Int) (wrap64 (x16_1 + 1))) else (none)) else (none)) else (none)) = some (r1, r2) := H
         have A13 := am_ A130
         clear A130
         obtain ⟨ji14, hji14⟩ : ∃ j_ : Int, (wrap64 ((t299.length : Int) - 2)) = j_ := ⟨_, rfl⟩
         replace H : (if 0 ≤ (ji14) then (if (ji14) < (t299.length : Int) then (if x5_1.length < 17592186044416 then (impl_NearestOf.l0 k1 l0 t295 (x5_1 ++ [rd t299 (ji14)]) (l0.length : Int) (wrap64 (x16_1 + 1))) else (none)) else (none)) else (none)) = some (r1, r2) := by first | (rw [hji14] at H; exact H) | (simp only [hji14] at H ⊢; exact H)
         (try rw [hji14] at A13)
         have hji14w : (IntKind.i64.wrap ((t299.length : Int) - 2)) = ji14 := (i64_w _).trans hji14
         by_cases c15 : 0 ≤ (ji14)
         ·rw [if_pos c15] at H
          have c15b0 : decide (0 ≤ (ji14)) = true := decide_eq_true c15
          clear c15
          by_cases c16 : (ji14) < (t299.length : Int)
          ·rw [if_pos c16] at H
           have c16b0 : decide ((ji14) < (t299.length : Int)) = true := decide_eq_true c16
           clear c16
           by_cases c17 : x5_1.length < 17592186044416
           ·rw [if_pos c17] at H
            have LMc17 := am_ c17
            clear c17
            obtain ⟨y303, hy303⟩ : ∃ y_ : List Int, y_ = (x5_1 ++ [rd t299 (ji14)]) := ⟨_, rfl⟩
            replace H : (impl_NearestOf.l0 k1 l0 t295 y303 (l0.length : Int) (wrap64 (x16_1 + 1))) = some (r1, r2) := by first | (rw [hy303]; with_reducible exact H) | (have H2_ := (Option.bind_some _ _).symm.trans H; rw [hy303]; with_reducible exact H2_) | (have H2_ := (Option.bind_some _ _).symm.trans H; with_reducible exact H2_) | with_reducible exact H | (rw [hy303]; exact H) | exact H
            have Ny303 := am_ hy303
            clear hy303
            have H' := am_ H
            clear H
            obtain ⟨Ao18, co18, eo18⟩ := Kd.R_slice HO_4.out
            subst eo18
            have p298 : 0 ≤ (x16_1 : Int) := od_
            have q298 : x16_1 < (t295.length : Int) := od_
            obtain ⟨ad298, e298, hx298_0⟩ := Kd.at_bool (Kd.R_reads' HO_4.out).2.2 x16_1 p298 q298
            (try rw [← Nbq10.out] at hx298_0)
            cases e298
            replace p298 := eq_true p298
            replace q298 := eq_true q298
            go_wp2_with (first | ((with_reducible refine gl_ 63 rfl ?_); refine goesM_ (some 29) Try.func63 #[.slice A0 l0.length c0, .int .i64 x16_1] ?_; (with_reducible refine (impl_mustPass.calls k1 _ _ l0 x16_1 t299 _ ?side1 ?side2 A13.out).mono ?_); (case side1 => exact cm_ (Kd.C_below HR0.out HB.out)); (case side2 => exact HC0.out); rintro e w19 ⟨v300, rfl, ho0, hb⟩; refine ⟨_, rfl, ?_⟩; replace HO_4 := am_ (Kd.R_below (rq_ HO_4.out) hb); have HO301 := am_ (Kd.R_lower (Kd.R_new' ho0 (Kd.R_lt (rq_ HO_5.out))) (below_size (bq_))); replace HO_5 := am_ (Kd.R_elder' (rq_ HO_5.out) (Kd.R_base ho0) hb); replace HB := bs_ hb; (try clear hb); (try clear hk); (try clear ho0); obtain ⟨Ao20, co20, eo20⟩ := Kd.R_slice HO301.out; subst eo20; have p302 : 0 ≤ ((ji14) : Int) := od_; have q302 : (ji14) < (t299.length : Int) := od_; obtain ⟨ad302, e302, hx302_0⟩ := Kd.at_int (Kd.R_reads' HO301.out).2.2 (ji14) p302 q302; cases e302; replace p302 := eq_true p302; replace q302 := eq_true q302) | ((with_reducible refine gate_builtin (b := .append) (xs := #[.tmp 36, .tmp 38]) rfl ?_); at_builtin; refine Kd.R_append (Kd.int .i64) (w0 := w) w.heap.size rfl (.tmp 36) (.tmp 38) 30 3 (.int .i64 0) 8 rfl Try.underlying30 info3 rfl (by decide) (by omega) u5 x5_1 (rd t299 (ji14)) [.int .i64 (rd t299 (ji14))] (fun k_ => some k_ ≠ (.slice (some ad302) t299.length co20 : Value).ownBlock) (fun _ => False) rfl rfl ?aP (fun _ hk => hk.elim) ?aF ?aO ?aB ?aS ?aL ?_; (case aP => exact rfl); (case aB => exact (bq_)); (case aF => exact (fun k_ hk => Kd.fresh' (Kd.R_lt (rq_ HO301.out)) k_ hk)); (case aO => exact (rq_ (Kd.R_mono HO_5.out (fun _ hk => hk.2)))); (case aS => exact (below_size (bq_))); (case aL => have := LMc17.out; omega); intro v304 w21 ho hb hg hat; rw [← Ny303.out] at ho; replace HO_4 := am_ (Kd.R_over' (rq_ HO_4.out) (Kd.R_typed (rq_ HO_5.out)) (by decide) hg); replace HO301 := am_ (Kd.R_after (ok := (fun _ => True)) (rq_ HO301.out) hg hat); replace HB := am_ (hb); have HO305 := am_ (ho); clear HO_5; clear ho hb hg hat))
            go_roundg k1
            case measure => have := HK1.out; omega
            case rel => exact ⟨(y303), (wrap64 (x16_1 + 1)), y14_, H', ⟨by have := HK1.out; omega⟩, ⟨rq_ HO_4.out⟩, ⟨rq_ (Kd.R_mono HO305.out (fun _ hk => trivial))⟩, ⟨bq_⟩⟩
           ·rw [if_neg c17] at H
            exact absurd H (by simp)
          ·rw [if_neg c16] at H
           exact absurd H (by simp)
         ·rw [if_neg c15] at H
          exact absurd H (by simp)
        ·rw [if_neg c12] at H
         have c12b0 : decide (0 < x16_1) = false := decide_eq_false c12
         clear c12
         by_cases c22 : x5_1.length < 17592186044416
         ·rw [if_pos c22] at H
          have LMc22 := am_ c22
          clear c22
          obtain ⟨y306, hy306⟩ : ∃ y_ : List Int, y_ = (x5_1 ++ [(-1)]) := ⟨_, rfl⟩
          replace H : (impl_NearestOf.l0 k1 l0 t295 y306 (l0.length : Int) (wrap64 (x16_1 + 1))) = some (r1, r2) := by first | (rw [hy306]; with_reducible exact H) | (have H2_ := (Option.bind_some _ _).symm.trans H; rw [hy306]; with_reducible exact H2_) | (have H2_ := (Option.bind_some _ _).symm.trans H; with_reducible exact H2_) | with_reducible exact H | (rw [hy306]; exact H) | exact H
          have Ny306 := am_ hy306
          clear hy306
          have H' := am_ H
          clear H
          obtain ⟨Ao23, co23, eo23⟩ := Kd.R_slice HO_4.out
          subst eo23
          have p298 : 0 ≤ (x16_1 : Int) := od_
          have q298 : x16_1 < (t295.length : Int) := od_
          obtain ⟨ad298, e298, hx298_0⟩ := Kd.at_bool (Kd.R_reads' HO_4.out).2.2 x16_1 p298 q298
          (try rw [← Nbq10.out] at hx298_0)
          cases e298
          replace p298 := eq_true p298
          replace q298 := eq_true q298
          go_wp2_with (first | ((with_reducible refine gate_builtin (b := .append) (xs := #[.tmp 36, .tmp 38]) rfl ?_); at_builtin; refine Kd.R_append (Kd.int .i64) (w0 := w) w.heap.size rfl (.tmp 36) (.tmp 38) 30 3 (.int .i64 0) 8 rfl Try.underlying30 info3 rfl (by decide) (by omega) u5 x5_1 (-1) [.int .i64 (-1)] (fun _ => True) (fun _ => False) rfl rfl ?aP (fun _ hk => hk.elim) ?aF ?aO ?aB ?aS ?aL ?_; (case aP => exact rfl); (case aB => exact (bq_)); (case aF => exact (fun _ _ => trivial)); (case aO => exact (rq_ HO_5.out)); (case aS => exact (below_size (bq_))); (case aL => have := LMc22.out; omega); intro v307 w24 ho hb hg hat; rw [← Ny306.out] at ho; replace HO_4 := am_ (Kd.R_over' (rq_ HO_4.out) (Kd.R_typed (rq_ HO_5.out)) (by decide) hg); replace HB := am_ (hb); have HO308 := am_ (ho); clear HO_5; clear ho hb hg hat))
          go_roundg k1
          case measure => have := HK1.out; omega
          case rel => exact ⟨(y306), (wrap64 (x16_1 + 1)), y14_, H', ⟨by have := HK1.out; omega⟩, ⟨rq_ HO_4.out⟩, ⟨rq_ HO308.out⟩, ⟨bq_⟩⟩
         ·rw [if_neg c22] at H
          exact absurd H (by simp)
       ·replace c11 := Bool.eq_false_iff.mpr c11
        subst c11
        have H1 : (if x5_1.length < 17592186044416 then (impl_NearestOf.l0 k1 l0 t295 (x5_1 ++ [(-1)]) (l0.length : Int) (wrap64 (x16_1 + 1))) else (none)) = some (r1, r2) := by rw [if_neg (show ¬ (false = true) by decide)] at H; exact H
        clear H
        have H := H1
        clear H1
        by_cases c25 : x5_1.length < 17592186044416
        ·rw [if_pos c25] at H
         have LMc25 := am_ c25
         clear c25
         obtain ⟨y309, hy309⟩ : ∃ y_ : List Int, y_ = (x5_1 ++ [(-1)]) := ⟨_, rfl⟩
         replace H : (impl_NearestOf.l0 k1 l0 t295 y309 (l0.length : Int) (wrap64 (x16_1 + 1))) = some (r1, r2) := by first | (rw [hy309]; with_reducible exact H) | (have H2_ := (Option.bind_some _ _).symm.trans H; rw [hy309]; with_reducible exact H2_) | (have H2_ := (Option.bind_some _ _).symm.trans H; with_reducible exact H2_) | with_reducible exact H | (rw [hy309]; exact H) | exact H
         have Ny309 := am_ hy309
         clear hy309
         have H' := am_ H
         clear H
         obtain ⟨Ao26, co26, eo26⟩ := Kd.R_slice HO_4.out
         subst eo26
         have p298 : 0 ≤ (x16_1 : Int) := od_
         have q298 : x16_1 < (t295.length : Int) := od_
         obtain ⟨ad298, e298, hx298_0⟩ := Kd.at_bool (Kd.R_reads' HO_4.out).2.2 x16_1 p298 q298
         (try rw [← Nbq10.out] at hx298_0)
         cases e298
         replace p298 := eq_true p298
         replace q298 := eq_true q298
         go_wp2_with (first | ((with_reducible refine gate_builtin (b := .append) (xs := #[.tmp 36, .tmp 38]) rfl ?_); at_builtin; refine Kd.R_append (Kd.int .i64) (w0 := w) w.heap.size rfl (.tmp 36) (.tmp 38) 30 3 (.int .i64 0) 8 rfl Try.underlying30 info3 rfl (by decide) (by omega) u5 x5_1 (-1) [.int .i64 (-1)] (fun _ => True) (fun _ => False) rfl rfl ?aP (fun _ hk => hk.elim) ?aF ?aO ?aB ?aS ?aL ?_; (case aP => exact rfl); (case aB => exact (bq_)); (case aF => exact (fun _ _ => trivial)); (case aO => exact (rq_ HO_5.out)); (case aS => exact (below_size (bq_))); (case aL => have := LMc25.out; omega); intro v310 w27 ho hb hg hat; rw [← Ny309.out] at ho; replace HO_4 := am_ (Kd.R_over' (rq_ HO_4.out) (Kd.R_typed (rq_ HO_5.out)) (by decide) hg); replace HB := am_ (hb); have HO311 := am_ (ho); clear HO_5; clear ho hb hg hat))
         go_roundg k1
         case measure => have := HK1.out; omega
         case rel => exact ⟨(y309), (wrap64 (x16_1 + 1)), y14_, H', ⟨by have := HK1.out; omega⟩, ⟨rq_ HO_4.out⟩, ⟨rq_ HO311.out⟩, ⟨bq_⟩⟩
        ·rw [if_neg c25] at H
         exact absurd H (by simp)
      ·rw [if_neg c9] at H
       exact absurd H (by simp)
     ·rw [if_neg c8] at H
      exact absurd H (by simp)
    ·rw [if_neg c7] at H
     have c7b0 : decide (x16_1 < (l0.length : Int)) = false := decide_eq_false c7
     clear c7
     simp only [Option.some.injEq, Prod.mk.injEq] at H
     obtain ⟨rfl, rfl⟩ := H
     go_wp2
     go_ret2
     exact ⟨_, by first | rfl | (simp [errW_none, errW_some] <;> rfl) | (simp [*, errW_none, errW_some] <;> rfl), rq_ HO_5.out, bq_⟩
 ·replace c3 := Bool.eq_false_iff.mpr c3
  subst c3
  have H1 : (some (([] : List Int), false)) = some (r1, r2) := by rw [if_neg (show ¬ (false = true) by decide)] at H; exact H
  clear H
  have H := H1
  clear H1
  simp only [Option.some.injEq, Prod.mk.injEq] at H
  obtain ⟨rfl, rfl⟩ := H
  go_enter Try.func32, Try.ntmps32
  go_wp2_with (first | ((with_reducible refine gl_ 49 rfl ?_); refine goesM_ (some 10) Try.func49 #[.slice A0 l0.length c0] ?_; (with_reducible refine (impl_GoodProgram.calls k _ _ l0 false _ ?side1 ?side2 A2.out).mono ?_); (case side1 => exact cm_ HR0.out); (case side2 => exact HC0.out); rintro e w28 ⟨rfl, hb⟩; refine ⟨_, rfl, ?_⟩; replace HB := bs_ hb; (try clear hb)))
  go_ret2
  exact ⟨_, by first | rfl | (simp [errW_none, errW_some] <;> rfl) | (simp [*, errW_none, errW_some] <;> rfl), by first | exact Kd.R_nil _ _ _ _ _ | exact Kd.N_nil _ _ _ _ _ | exact Kd.V_nil _ _ _ _ _ | exact Kd.Q_nil _ _ _ _ _ | exact Kd.S_nil _ _ _ _ _, bq_⟩
def laws_sameInts.l0 : Nat → List Int → List Int → Int → Int → Option (Bool)
 | 0, _, _, _, _ => none
 | k + 1, x0, x1, x12, x13 => if x13 < x12 then (if 0 ≤ x13 then (if x13 < (x0.length : Int) then (if x13 < (x1.length : Int) then (if (rd x0 x13) = (rd x1 x13) then (laws_sameInts.l0 k x0 x1 x12 (wrap64 (x13 + 1))) else (some false)) else (none)) else (none)) else (none)) else (some true)
def laws_sameInts.f (k : Nat) (l0 : List Int) (l1 : List Int) : Option (Bool) := if (l0.length : Int) = (l1.length : Int) then (laws_sameInts.l0 k l0 l1 (l0.length : Int) 0) else (some false)
set_option maxHeartbeats 8000000 in
set_option maxRecDepth 100000 in
theorem laws_sameInts.calls (k : Nat) (A0 : Option Addr) (c0 : Nat) (l0 : List Int) (A1 : Option Addr) (c1 : Nat) (l1 : List Int) (r : Bool) (w : World) (hr0 : Kd.C (Kd.int .i64) w A0 l0.length l0) (hc0 : l0.length ≤ c0) (hr1 : Kd.C (Kd.int .i64) w A1 l1.length l1) (hc1 : l1.length ≤ c1) (h : laws_sameInts.f k l0 l1 = some r) :
  Calls Try.prog 34 #[.slice A0 l0.length c0, .slice A1 l1.length c1] w fun e w' => e = .returned (.bool r) ∧ Drawn0 w w' := by
 have HR0 := am_ hr0
 have HC0 := am_ hc0
 clear hr0 hc0
 have HR1 := am_ hr1
 have HC1 := am_ hc1
 clear hr1 hc1
 have H : (if (l0.length : Int) = (l1.length : Int) then (laws_sameInts.l0 k l0 l1 (l0.length : Int) 0) else (some false)) = some r := h
 clear h
 by_cases c3 : (l0.length : Int) = (l1.length : Int)
 ·rw [if_pos c3] at H
  have c3b0 : ((l0.length : Int) == (l1.length : Int)) = true := beq_iff_eq.mpr c3
  have c3b1 : ((l0.length : Int) != (l1.length : Int)) = false := bne_eq_false_iff_eq.mpr c3
  have c3b2 : (l0.length == l1.length) = true := by first | simpa using c3 | (simp at c3 ⊢; omega)
  clear c3
  have H' := am_ H
  clear H
  go_enter Try.func34, Try.ntmps34
  go_wp2
  repeat (go_quiet (fail); try go_wp2)
  go_loopg [13] k (fun kq v13 w' => ∃ (x13_1 : Int), v13 = .int .i64 x13_1 ∧ Aside0 (laws_sameInts.l0 kq l0 l1 (l0.length : Int) x13_1 = some r) ∧ Aside0 (kq ≤ k) ∧ Drawn0 w w')
  case atStart => exact ⟨(0), y14_, H', ⟨Nat.le_refl _⟩, by repeat (first | exact Drawn0.refl _ | apply Drawn0.step)⟩
  case round =>
   clear H'
   try clear c1
   try clear p2
   try clear c3
   try clear c3b0
   try clear c3b1
   try clear c3b2
   obtain ⟨x13_1, rfl, HA, HK1, ⟨m1, rfl⟩⟩ := hrel
   cases gk with
   | zero => exact absurd HA.out (by simp [laws_sameInts.l0])
   | succ k1 =>
    have H := HA.out
    clear HA
    simp only [laws_sameInts.l0] at H
    by_cases c4 : x13_1 < (l0.length : Int)
    ·rw [if_pos c4] at H
     have c4b0 : decide (x13_1 < (l0.length : Int)) = true := decide_eq_true c4
     clear c4
     by_cases c5 : 0 ≤ x13_1
     ·rw [if_pos c5] at H
      have c5b0 : decide (0 ≤ x13_1) = true := decide_eq_true c5
      clear c5
      by_cases c6 : x13_1 < (l0.length : Int)
      ·rw [if_pos c6] at H
       have c6b0 : decide (x13_1 < (l0.length : Int)) = true := decide_eq_true c6
       clear c6
       by_cases c7 : x13_1 < (l1.length : Int)
       ·rw [if_pos c7] at H
        have c7b0 : decide (x13_1 < (l1.length : Int)) = true := decide_eq_true c7
        clear c7
        by_cases c8 : (rd l0 x13_1) = (rd l1 x13_1)
        ·rw [if_pos c8] at H
         have c8b0 : ((rd l0 x13_1) == (rd l1 x13_1)) = true := beq_iff_eq.mpr c8
         have c8b1 : ((rd l0 x13_1) != (rd l1 x13_1)) = false := bne_eq_false_iff_eq.mpr c8
         clear c8
         have H' := am_ H
         clear H
         have p312 : 0 ≤ (x13_1 : Int) := od_
         have q312 : x13_1 < (l0.length : Int) := od_
         obtain ⟨ad312, e312, hx312_0⟩ := Kd.at_int HR0.out x13_1 p312 q312
         cases e312
         replace p312 := eq_true p312
         replace q312 := eq_true q312
         have p313 : 0 ≤ (x13_1 : Int) := od_
         have q313 : x13_1 < (l1.length : Int) := od_
         obtain ⟨ad313, e313, hx313_0⟩ := Kd.at_int HR1.out x13_1 p313 q313
         cases e313
         replace p313 := eq_true p313
         replace q313 := eq_true q313
         go_wp2
         repeat (go_quiet (fail); try go_wp2)
         go_roundg k1
         case measure => have := HK1.out; omega
         case rel => exact ⟨(wrap64 (x13_1 + 1)), y14_, H', ⟨by have := HK1.out; omega⟩, by repeat (first | exact Drawn0.refl _ | apply Drawn0.step)⟩
        ·rw [if_neg c8] at H
         have c8b0 : ((rd l0 x13_1) == (rd l1 x13_1)) = false := beq_eq_false_iff_ne.mpr c8
         have c8b1 : ((rd l0 x13_1) != (rd l1 x13_1)) = true := bne_iff_ne.mpr c8
         obtain rfl := Option.some.inj H
         have p312 : 0 ≤ (x13_1 : Int) := od_
         have q312 : x13_1 < (l0.length : Int) := od_
         obtain ⟨ad312, e312, hx312_0⟩ := Kd.at_int HR0.out x13_1 p312 q312
         cases e312
         replace p312 := eq_true p312
         replace q312 := eq_true q312
         have p313 : 0 ≤ (x13_1 : Int) := od_
         have q313 : x13_1 < (l1.length : Int) := od_
         obtain ⟨ad313, e313, hx313_0⟩ := Kd.at_int HR1.out x13_1 p313 q313
         cases e313
         replace p313 := eq_true p313
         replace q313 := eq_true q313
         go_wp2
         repeat (go_quiet (fail); try go_wp2)
         go_ret
         exact ⟨by first | rfl | (simp; done) | (simp [*]; done), by repeat (first | exact Drawn0.refl _ | apply Drawn0.step)⟩
       ·rw [if_neg c7] at H
        exact absurd H (by simp)
      ·rw [if_neg c6] at H
       exact absurd H (by simp)
     ·rw [if_neg c5] at H
      exact absurd H (by simp)
    ·rw [if_neg c4] at H
     have c4b0 : decide (x13_1 < (l0.length : Int)) = false := decide_eq_false c4
     clear c4
     obtain rfl := Option.some.inj H
     go_wp2
     repeat (go_quiet (fail); try go_wp2)
     go_ret
     exact ⟨by first | rfl | (simp; done) | (simp [*]; done), by repeat (first | exact Drawn0.refl _ | apply Drawn0.step)⟩
 ·rw [if_neg c3] at H
  have c3b0 : ((l0.length : Int) == (l1.length : Int)) = false := beq_eq_false_iff_ne.mpr c3
  have c3b1 : ((l0.length : Int) != (l1.length : Int)) = true := bne_iff_ne.mpr c3
  have c3b2 : (l0.length == l1.length) = false := by first | simpa using c3 | (simp at c3 ⊢; omega)
  obtain rfl := Option.some.inj H
  go_enter Try.func34, Try.ntmps34
  go_wp2
  repeat (go_quiet (fail); try go_wp2)
  go_ret
  exact ⟨by first | rfl | (simp; done) | (simp [*]; done), by repeat (first | exact Drawn0.refl _ | apply Drawn0.step)⟩
def laws_has.l0 : Nat → Int → List Int → Int → Int → Option (Bool)
 | 0, _, _, _, _ => none
 | k + 1, x1, x7, x8, x9 => if x9 < x8 then (if 0 ≤ x9 then (if x9 < (x7.length : Int) then (if (rd x7 x9) = x1 then (some true) else (laws_has.l0 k x1 x7 x8 (wrap64 (x9 + 1)))) else (none)) else (none)) else (some false)
def laws_has.f (k : Nat) (l0 : List Int) (a1 : Int) : Option (Bool) := laws_has.l0 k a1 l0 (l0.length : Int) 0
set_option maxHeartbeats 8000000 in
set_option maxRecDepth 100000 in
theorem laws_has.calls (k : Nat) (A0 : Option Addr) (c0 : Nat) (l0 : List Int) (a1 : Int) (r : Bool) (w : World) (hr0 : Kd.C (Kd.int .i64) w A0 l0.length l0) (hc0 : l0.length ≤ c0) (h : laws_has.f k l0 a1 = some r) :
  Calls Try.prog 35 #[.slice A0 l0.length c0, .int .i64 a1] w fun e w' => e = .returned (.bool r) ∧ Drawn0 w w' := by
 have HR0 := am_ hr0
 have HC0 := am_ hc0
 clear hr0 hc0
 have H : (laws_has.l0 k a1 l0 (l0.length : Int) 0) = some r := h
 clear h
 have H' := am_ H
 clear H
 go_enter Try.func35, Try.ntmps35
 go_wp2
 go_loopg [9] k (fun kq v9 w' => ∃ (x9_1 : Int), v9 = .int .i64 x9_1 ∧ Aside0 (laws_has.l0 kq a1 l0 (l0.length : Int) x9_1 = some r) ∧ Aside0 (kq ≤ k) ∧ Drawn0 w w')
 case atStart => exact ⟨(0), y14_, H', ⟨Nat.le_refl _⟩, by repeat (first | exact Drawn0.refl _ | apply Drawn0.step)⟩
 case round =>
  clear H'
  try clear p2
  obtain ⟨x9_1, rfl, HA, HK1, ⟨m1, rfl⟩⟩ := hrel
  cases gk with
  | zero => exact absurd HA.out (by simp [laws_has.l0])
  | succ k1 =>
   have H := HA.out
   clear HA
   simp only [laws_has.l0] at H
   by_cases c3 : x9_1 < (l0.length : Int)
   ·rw [if_pos c3] at H
    have c3b0 : decide (x9_1 < (l0.length : Int)) = true := decide_eq_true c3
    clear c3
    by_cases c4 : 0 ≤ x9_1
    ·rw [if_pos c4] at H
     have c4b0 : decide (0 ≤ x9_1) = true := decide_eq_true c4
     clear c4
     by_cases c5 : x9_1 < (l0.length : Int)
     ·rw [if_pos c5] at H
      have c5b0 : decide (x9_1 < (l0.length : Int)) = true := decide_eq_true c5
      clear c5
      by_cases c6 : (rd l0 x9_1) = a1
      ·rw [if_pos c6] at H
       have c6b0 : ((rd l0 x9_1) == a1) = true := beq_iff_eq.mpr c6
       have c6b1 : ((rd l0 x9_1) != a1) = false := bne_eq_false_iff_eq.mpr c6
       clear c6
       obtain rfl := Option.some.inj H
       have p314 : 0 ≤ (x9_1 : Int) := od_
       have q314 : x9_1 < (l0.length : Int) := od_
       obtain ⟨ad314, e314, hx314_0⟩ := Kd.at_int HR0.out x9_1 p314 q314
       cases e314
       replace p314 := eq_true p314
       replace q314 := eq_true q314
       go_wp2
       go_ret
       exact ⟨by first | rfl | (simp; done) | (simp [*]; done), by repeat (first | exact Drawn0.refl _ | apply Drawn0.step)⟩
      ·rw [if_neg c6] at H
       have c6b0 : ((rd l0 x9_1) == a1) = false := beq_eq_false_iff_ne.mpr c6
       have c6b1 : ((rd l0 x9_1) != a1) = true := bne_iff_ne.mpr c6
       have H' := am_ H
       clear H
       have p314 : 0 ≤ (x9_1 : Int) := od_
       have q314 : x9_1 < (l0.length : Int) := od_
       obtain ⟨ad314, e314, hx314_0⟩ := Kd.at_int HR0.out x9_1 p314 q314
       cases e314
       replace p314 := eq_true p314
       replace q314 := eq_true q314
       go_wp2
       go_roundg k1
       case measure => have := HK1.out; omega
       case rel => exact ⟨(wrap64 (x9_1 + 1)), y14_, H', ⟨by have := HK1.out; omega⟩, by repeat (first | exact Drawn0.refl _ | apply Drawn0.step)⟩
     ·rw [if_neg c5] at H
      exact absurd H (by simp)
    ·rw [if_neg c4] at H
     exact absurd H (by simp)
   ·rw [if_neg c3] at H
    have c3b0 : decide (x9_1 < (l0.length : Int)) = false := decide_eq_false c3
    clear c3
    obtain rfl := Option.some.inj H
    go_wp2
    go_ret
    exact ⟨by first | rfl | (simp; done) | (simp [*]; done), by repeat (first | exact Drawn0.refl _ | apply Drawn0.step)⟩
end Go.Proofs.Ytcmhkgpalfljbaa.PPA
