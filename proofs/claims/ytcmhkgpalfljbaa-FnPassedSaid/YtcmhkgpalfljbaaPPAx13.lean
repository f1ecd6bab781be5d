import Derived.Test.YtcmhkgpalfljbaaPPAx0
import Derived.Test.YtcmhkgpalfljbaaPPAx4
import Derived.Test.YtcmhkgpalfljbaaPPAx11
import Derived.Test.YtcmhkgpalfljbaaPPAx12
namespace Go.Proofs.Ytcmhkgpalfljbaa.PPA
open Go.RowKit Go.Proofs.YtcmhkgpalfljbaaW.PrintWords Go.Proofs.YtcmhkgpalfljbaaW.PrintLast Go.Proofs.YtcmhkgpalfljbaaW.PrintMore
attribute [local go_sem] max2_int min2_int max_two min_two max_three min_three max_four min_four   -- for this text's walks alone
set_option linter.unusedVariables false
set_option linter.unusedSimpArgs false
mutual
def spec_l1Cur_program.j0 : Nat → List (S51) → Int → List Int → Int → Int → Option ((List (S51)) × Int × Int)
 | 0, _, _, _, _, _ => none
 | k + 1, x3, x4, x1000, x1001, x1002 => spec_l1Cur_program.l0 k x3 x4 0 x1000 x1001 x1002
def spec_l1Cur_program.l0 : Nat → List (S51) → Int → Int → List Int → Int → Int → Option ((List (S51)) × Int × Int)
 | 0, _, _, _, _, _, _ => none
 | k + 1, x3, x4, x5, x1000, x1001, x1002 => if x5 < x4 then ((spec_l1Cur_step.f k x1000 x1001 x1002 (wrap64 (x4 - x5))).bind fun bt395 => (if x3.length < 2932031007402 then (spec_l1Cur_program.l0 k (x3 ++ [(⟨bt395.1, bt395.2.1, bt395.2.2.1, bt395.2.2.2.1, bt395.2.2.2.2.1, bt395.2.2.2.2.2.1⟩ : S51)]) x4 (wrap64 (x5 + 1)) x1000 bt395.2.2.2.2.2.2.1 bt395.2.2.2.2.2.2.2) else (none))) else (if x3.length < 2932031007402 then ((some (x3 ++ [(⟨11, 0, 0, 0, 0, 0⟩ : S51)] : List (S51))).bind fun y406 => ((spec_l1Cur_one.f x1000 x1001 x1002 30).bind fun bt409 => (if bt409.1 = true then ((spec_l1Cur_pick.f x1000 bt409.2.1 bt409.2.2 (y406.length : Int)).bind fun bt412 => ((spec_l1Cur_pick.f x1000 bt412.2.1 bt412.2.2 13).bind fun bt415 => ((spec_l1Cur_pick.f x1000 bt415.2.1 bt415.2.2 3).bind fun bt418 => ((spec_l1Cur_pick.f x1000 bt418.2.1 bt418.2.2 8).bind fun bt421 => ((spec_l1Cur_among.f x1000 bt421.2.1 bt421.2.2 (([0, 255, 256, 65536] : List Int))).bind fun bt427 => ((spec_l1Cur_pick.f x1000 bt427.2.1 bt427.2.2 4).bind fun bt430 => (if 0 ≤ bt412.1 then (if bt412.1 < (y406.length : Int) then (some ((y406.set (bt412.1 : Int).toNat (⟨bt415.1, bt418.1, wrap64 (bt421.1 - 1), 0, bt427.1, bt430.1⟩ : S51)), bt430.2.1, bt430.2.2)) else (none)) else (none)))))))) else (some (y406, bt409.2.1, bt409.2.2))))) else (none))
end
def spec_l1Cur_program.f (k : Nat) (s0_0 : List Int) (s0_1 : Int) (s0_2 : Int) : Option ((List (S51)) × Int × Int) := (spec_l1Cur_pick.f s0_0 s0_1 s0_2 12).bind fun bt389 => ((spec_l1Cur_one.f s0_0 bt389.2.1 bt389.2.2 30).bind fun bt392 => (if bt392.1 = true then (spec_l1Cur_program.j0 k ([] : List (S51)) 19 s0_0 bt392.2.1 bt392.2.2) else (spec_l1Cur_program.j0 k ([] : List (S51)) bt389.1 s0_0 bt392.2.1 bt392.2.2)))
set_option maxHeartbeats 8000000 in
set_option maxRecDepth 100000 in
theorem spec_l1Cur_program.calls (k : Nat) (g : Nat) (s0_0 : List Int) (s0_1 : Int) (s0_2 : Int) (r1 : List (S51)) (r2 : Int) (r3 : Int) (w0 w : World) (hI : IsS68 w0 w g s0_0 s0_1 s0_2) (hB : Below w0.heap.size w0 w) (h : spec_l1Cur_program.f k s0_0 s0_1 s0_2 = some (r1, r2, r3)) :
  Calls Try.prog 66 #[.pointer (some ⟨g, 0, none⟩)] w fun e w' => ∃ v0_ : Value, e = .returned (v0_) ∧ Kd.R k51 51 w' w.heap.size (fun _ => True) v0_ r1 ∧ IsS68 w0 w' g s0_0 r2 r3 ∧ Below w0.heap.size w0 w' ∧ KeepBut w w' g none := by
 have hu51 := Try.underlying51
 have HI0 := am_ hI
 have HK := am_ (KeepBut.refl w g none)
 have HL := am_ hB.size
 clear hI
 have HW0 := am_ hB.size
 have HB := am_ hB
 clear hB
 have H : ((spec_l1Cur_pick.f s0_0 s0_1 s0_2 12).bind fun bt389 => ((spec_l1Cur_one.f s0_0 bt389.2.1 bt389.2.2 30).bind fun bt392 => (if bt392.1 = true then (spec_l1Cur_program.j0 k ([] : List (S51)) 19 s0_0 bt392.2.1 bt392.2.2) else (spec_l1Cur_program.j0 k ([] : List (S51)) bt389.1 s0_0 bt392.2.1 bt392.2.2)))) = some (r1, r2, r3) := h
 clear h
 replace H := Option.bind_eq_some_iff.mp H
 obtain ⟨⟨t389, t390, t391⟩, A20, H⟩ := H
 replace H : ((spec_l1Cur_one.f s0_0 t390 t391 30).bind fun bt392 => (if bt392.1 = true then (spec_l1Cur_program.j0 k ([] : List (S51)) 19 s0_0 bt392.2.1 bt392.2.2) else (spec_l1Cur_program.j0 k ([] : List (S51)) t389 s0_0 bt392.2.1 bt392.2.2))) = some (r1, r2, r3) := H
 have A2 := am_ A20
 clear A20
 replace H := Option.bind_eq_some_iff.mp H
 obtain ⟨⟨t392, t393, t394⟩, A30, H⟩ := H
 replace H : (if t392 = true then (spec_l1Cur_program.j0 k ([] : List (S51)) 19 s0_0 t393 t394) else (spec_l1Cur_program.j0 k ([] : List (S51)) t389 s0_0 t393 t394)) = some (r1, r2, r3) := H
 have A3 := am_ A30
 clear A30
 have HC4 := am_ H
 clear H
 go_enter Try.func66, Try.ntmps66
 go_upto_if 9 with (first | ((with_reducible refine gl_ 76 rfl ?_); refine goesM_ (some 7) Try.func76 #[.pointer (some ⟨g, 0, none⟩), .int .i64 12] ?_; (with_reducible refine (spec_l1Cur_pick.calls g s0_0 s0_1 s0_2 12 t389 t390 t391 w0 _ ?side1 ?side2 A2.out).mono ?_); (case side1 => repeat (first | (with_reducible first | exact HI0.out | apply IsS68.alloc | apply IsS68.drewN | apply IsS68.drew | apply IsS68.set_1 | apply IsS68.set_2) | exact HI0.out)); (case side2 => repeat (first | (with_reducible first | exact HB.out | apply below_alloc | apply pw_below_drewN | apply below_drew1 | refine below_set ?_ (IsS68.ge HI0.out)) | exact HB.out)); rintro e w5 ⟨rfl, hi, hb, hk⟩; refine ⟨_, rfl, ?_⟩; replace HK := am_ (KeepBut.trans y9_ hk (.inl rfl)); replace HB := am_ (hb); replace HI0 := am_ (hi); (try clear hb); (try clear hk); (try clear hi)) | ((with_reducible refine gl_ 77 rfl ?_); refine goesM_ (some 9) Try.func77 #[.pointer (some ⟨g, 0, none⟩), .int .i64 30] ?_; (with_reducible refine (spec_l1Cur_one.calls g s0_0 t390 t391 30 t392 t393 t394 w0 _ ?side1 ?side2 A3.out).mono ?_); (case side1 => repeat (first | (with_reducible first | exact HI0.out | apply IsS68.alloc | apply IsS68.drewN | apply IsS68.drew | apply IsS68.set_1 | apply IsS68.set_2) | exact HI0.out)); (case side2 => repeat (first | (with_reducible first | exact HB.out | apply below_alloc | apply pw_below_drewN | apply below_drew1 | refine below_set ?_ (IsS68.ge HI0.out)) | exact HB.out)); rintro e w6 ⟨rfl, hi, hb, hk⟩; refine ⟨_, rfl, ?_⟩; replace HK := am_ (KeepBut.trans y9_ hk (.inl rfl)); replace HB := am_ (hb); replace HI0 := am_ (hi); (try clear hb); (try clear hk); (try clear hi)))
 (try simp only [Act.put, List.setIfInBounds_toArray, List.set_cons_zero, List.set_cons_succ])
 go_cut [4] (fun v4 wc => ∃ (kq : Nat) (x4_3 : Int), v4 = .int .i64 x4_3 ∧ Aside0 (spec_l1Cur_program.j0 kq ([] : List (S51)) x4_3 s0_0 t393 t394 = some (r1, r2, r3)) ∧ Aside0 (kq ≤ k) ∧ Aside0 (Kd.R k51 51 wc w.heap.size (fun _ => True) (.slice none 0 0) ([] : List (S51))) ∧ Aside0 (IsS68 w0 wc g s0_0 t393 t394) ∧ Aside0 (KeepBut w wc g none) ∧ Aside0 (Below w0.heap.size w0 wc))
 case first =>
  have H := HC4.out
  clear HC4
  by_cases c7 : t392 = true
  ·subst c7
   have H1 : (spec_l1Cur_program.j0 k ([] : List (S51)) 19 s0_0 t393 t394) = some (r1, r2, r3) := by rw [if_pos rfl] at H; exact H
   clear H
   have H := H1
   clear H1
   have H' := am_ H
   clear H
   go_wp2
   go_meet
   case rel => exact ⟨_, (19), y14_, H', ⟨by first | omega | exact Nat.le_refl _⟩, ⟨by first | exact Kd.R_nil _ _ _ _ _ | exact Kd.N_nil _ _ _ _ _ | exact Kd.V_nil _ _ _ _ _ | exact Kd.Q_nil _ _ _ _ _ | exact Kd.S_nil _ _ _ _ _⟩, ⟨by repeat (first | (with_reducible first | exact HI0.out | apply IsS68.alloc | apply IsS68.drewN | apply IsS68.drew | apply IsS68.set_1 | apply IsS68.set_2) | exact HI0.out)⟩, ⟨by repeat (first | (with_reducible first | exact HK.out | apply KeepBut.set_ | apply keep_drewN | apply keep_drew | apply keep_alloc) | exact HK.out)⟩, ⟨by repeat (first | (with_reducible first | exact HB.out | apply below_alloc | apply pw_below_drewN | apply below_drew1 | refine below_set ?_ (IsS68.ge HI0.out)) | exact HB.out)⟩⟩
  ·replace c7 := Bool.eq_false_iff.mpr c7
   subst c7
   have H1 : (spec_l1Cur_program.j0 k ([] : List (S51)) t389 s0_0 t393 t394) = some (r1, r2, r3) := by rw [if_neg (show ¬ (false = true) by decide)] at H; exact H
   clear H
   have H := H1
   clear H1
   have H' := am_ H
   clear H
   go_wp2
   go_meet
   case rel => exact ⟨_, (t389), y14_, H', ⟨by first | omega | exact Nat.le_refl _⟩, ⟨by first | exact Kd.R_nil _ _ _ _ _ | exact Kd.N_nil _ _ _ _ _ | exact Kd.V_nil _ _ _ _ _ | exact Kd.Q_nil _ _ _ _ _ | exact Kd.S_nil _ _ _ _ _⟩, ⟨by repeat (first | (with_reducible first | exact HI0.out | apply IsS68.alloc | apply IsS68.drewN | apply IsS68.drew | apply IsS68.set_1 | apply IsS68.set_2) | exact HI0.out)⟩, ⟨by repeat (first | (with_reducible first | exact HK.out | apply KeepBut.set_ | apply keep_drewN | apply keep_drew | apply keep_alloc) | exact HK.out)⟩, ⟨by repeat (first | (with_reducible first | exact HB.out | apply below_alloc | apply pw_below_drewN | apply below_drew1 | refine below_set ?_ (IsS68.ge HI0.out)) | exact HB.out)⟩⟩
 case rest =>
  clear HC4
  try clear p2
  try clear c6
  try clear c7
  obtain ⟨kq, x4_3, rfl, HA, HJ3, HO_3, HI0, HK, HB⟩ := hcut
  cases kq with
  | zero => exact absurd HA.out (by simp [spec_l1Cur_program.j0])
  | succ kj3 =>
   have H := HA.out
   clear HA
   simp only [spec_l1Cur_program.j0] at H
   have H' := am_ H
   clear H
   go_wp2
   go_loopg [3, 5] kj3 (fun kq v3 v5 w' => ∃ (x3_2 : List (S51)) (x5_2 : Int) (x1001_2 : Int) (x1002_2 : Int), v5 = .int .i64 x5_2 ∧ Aside0 (spec_l1Cur_program.l0 kq x3_2 x4_3 x5_2 s0_0 x1001_2 x1002_2 = some (r1, r2, r3)) ∧ Aside0 (kq ≤ kj3) ∧ Aside0 (Kd.R k51 51 w' w.heap.size (fun _ => True) v3 x3_2) ∧ Aside0 (IsS68 w0 w' g s0_0 x1001_2 x1002_2) ∧ Aside0 (KeepBut w w' g none) ∧ Aside0 (Below w0.heap.size w0 w'))
   case atStart => exact ⟨(([] : List (S51))), (0), (t393), (t394), y14_, H', ⟨Nat.le_refl _⟩, ⟨rq_ HO_3.out⟩, ⟨by repeat (first | (with_reducible first | exact HI0.out | apply IsS68.alloc | apply IsS68.drewN | apply IsS68.drew | apply IsS68.set_1 | apply IsS68.set_2) | exact HI0.out)⟩, ⟨by repeat (first | (with_reducible first | exact HK.out | apply KeepBut.set_ | apply keep_drewN | apply keep_drew | apply keep_alloc) | exact HK.out)⟩, ⟨by repeat (first | (with_reducible first | exact HB.out | apply below_alloc | apply pw_below_drewN | apply below_drew1 | refine below_set ?_ (IsS68.ge HI0.out)) | exact HB.out)⟩⟩
   case round =>
    clear H'
    try clear p2
    try clear c6
    try clear c7
    try clear p2
    obtain ⟨x3_2, x5_2, x1001_2, x1002_2, rfl, HA, HK2, HO_3, HI0, HK, HB⟩ := hrel
    cases gk with
    | zero => exact absurd HA.out (by simp [spec_l1Cur_program.l0])
    | succ k2 =>
     have H := HA.out
     clear HA
     simp only [spec_l1Cur_program.l0] at H
     by_cases c8 : x5_2 < x4_3
     ·rw [if_pos c8] at H
      have c8b0 : decide (x5_2 < x4_3) = true := decide_eq_true c8
      clear c8
      replace H := Option.bind_eq_some_iff.mp H
      obtain ⟨⟨t395, t396, t397, t398, t399, t400, t401, t402⟩, A90, H⟩ := H
      replace H : (if x3_2.length < 2932031007402 then (spec_l1Cur_program.l0 k2 (x3_2 ++ [(⟨t395, t396, t397, t398, t399, t400⟩ : S51)]) x4_3 (wrap64 (x5_2 + 1)) s0_0 t401 t402) else (none)) = some (r1, r2, r3) := H
      have A9 := am_ A90
      clear A90
      by_cases c10 : x3_2.length < 2932031007402
      ·rw [if_pos c10] at H
       have LMc10 := am_ c10
       clear c10
       obtain ⟨y403, hy403⟩ : ∃ y_ : List (S51), y_ = (x3_2 ++ [(⟨t395, t396, t397, t398, t399, t400⟩ : S51)]) := ⟨_, rfl⟩
       replace H : (spec_l1Cur_program.l0 k2 y403 x4_3 (wrap64 (x5_2 + 1)) s0_0 t401 t402) = some (r1, r2, r3) := by first | (rw [hy403]; with_reducible exact H) | (have H2_ := (Option.bind_some _ _).symm.trans H; rw [hy403]; with_reducible exact H2_) | (have H2_ := (Option.bind_some _ _).symm.trans H; with_reducible exact H2_) | with_reducible exact H | (rw [hy403]; exact H) | exact H
       have Ny403 := am_ hy403
       clear hy403
       have H' := am_ H
       clear H
       go_wp2_with (first | ((with_reducible refine gl_ 78 rfl ?_); refine goesM_ (some 20) Try.func78 #[.pointer (some ⟨g, 0, none⟩), .int .i64 (wrap64 (x4_3 - x5_2))] ?_; (with_reducible refine (spec_l1Cur_step.calls k2 g s0_0 x1001_2 x1002_2 (wrap64 (x4_3 - x5_2)) t395 t396 t397 t398 t399 t400 t401 t402 w0 _ ?side1 ?side2 A9.out).mono ?_); (case side1 => repeat (first | (with_reducible first | exact HI0.out | apply IsS68.alloc | apply IsS68.drewN | apply IsS68.drew | apply IsS68.set_1 | apply IsS68.set_2) | exact HI0.out)); (case side2 => repeat (first | (with_reducible first | exact HB.out | apply below_alloc | apply pw_below_drewN | apply below_drew1 | refine below_set ?_ (IsS68.ge HI0.out)) | exact HB.out)); rintro e w11 ⟨rfl, hi, hb, hk⟩; refine ⟨_, rfl, ?_⟩; replace HO_3 := am_ (Kd.R_mono (Kd.R_keep (IsS68.apart (show IsS68 w0 _ g s0_0 x1001_2 x1002_2 from by repeat (first | (with_reducible first | exact HI0.out | apply IsS68.alloc | apply IsS68.drewN | apply IsS68.drew | apply IsS68.set_1 | apply IsS68.set_2) | exact HI0.out)) (rq_ HO_3.out) (by decide)) hk (fun _ h => h.2)) (fun _ h => h.1)); replace HK := am_ (KeepBut.trans y9_ hk (.inl rfl)); replace HB := am_ (hb); replace HI0 := am_ (hi); (try clear hb); (try clear hk); (try clear hi)) | ((with_reducible refine gate_builtin (b := .append) (xs := #[.tmp 15, .tmp 21]) rfl ?_); at_builtin; refine Kd.R_append k51 w.heap.size rfl (.tmp 15) (.tmp 21) 26 51 (.agg #[(.int .i64 0), (.int .i64 0), (.int .i64 0), (.int .i64 0), (.int .i64 0), (.int .i64 0)]) 48 rfl Try.underlying26 info51 rfl (by decide) (by omega) u3 x3_2 (⟨t395, t396, t397, t398, t399, t400⟩ : S51) [.int .i64 t395, .int .i64 t396, .int .i64 t397, .int .i64 t398, .int .i64 t399, .int .i64 t400] (fun _ => True) (fun _ => False) rfl rfl ?aP (fun _ hk => hk.elim) ?aF ?aO (Below.refl _ _) ?aS ?aL ?_; (case aP => exact k51_mkM _ _ _ (⟨t395, t396, t397, t398, t399, t400⟩ : S51)); (case aF => exact (fun _ _ => trivial)); (case aO => exact (rq_ HO_3.out)); (case aS => exact (keep_size (w := w) (g := g) (row := none) y9_)); (case aL => have := LMc10.out; omega); intro v404 w12 ho hb hg hat; rw [← Ny403.out] at ho; replace HB := am_ (below_weaken y6_ HL.out hb); replace HI0 := am_ (IsS68.grown y7_ hg (IsS68.own_ne HI0.out HO_3.out (by decide))); replace HK := am_ (KeepBut.trans y9_ (KeepBut.of_grown hg g) (Kd.R_base2 HO_3.out)); have HO405 := am_ (ho); clear HO_3; clear ho hb hg hat))
       go_roundg k2
       case measure => have := HJ3.out; have := HK2.out; omega
       case rel => exact ⟨(y403), (wrap64 (x5_2 + 1)), (t401), (t402), y14_, H', ⟨by have := HJ3.out; have := HK2.out; omega⟩, ⟨rq_ HO405.out⟩, ⟨by repeat (first | (with_reducible first | exact HI0.out | apply IsS68.alloc | apply IsS68.drewN | apply IsS68.drew | apply IsS68.set_1 | apply IsS68.set_2) | exact HI0.out)⟩, ⟨by repeat (first | (with_reducible first | exact HK.out | apply KeepBut.set_ | apply keep_drewN | apply keep_drew | apply keep_alloc) | exact HK.out)⟩, ⟨by repeat (first | (with_reducible first | exact HB.out | apply below_alloc | apply pw_below_drewN | apply below_drew1 | refine below_set ?_ (IsS68.ge HI0.out)) | exact HB.out)⟩⟩
      ·rw [if_neg c10] at H
       exact absurd H (by simp)
     ·rw [if_neg c8] at H
      have c8b0 : decide (x5_2 < x4_3) = false := decide_eq_false c8
      clear c8
      by_cases c13 : x3_2.length < 2932031007402
      ·rw [if_pos c13] at H
       have LMc13 := am_ c13
       clear c13
       obtain ⟨y406, hy406⟩ : ∃ y_ : List (S51), y_ = (x3_2 ++ [(⟨11, 0, 0, 0, 0, 0⟩ : S51)]) := ⟨_, rfl⟩
       replace H : ((spec_l1Cur_one.f s0_0 x1001_2 x1002_2 30).bind fun bt409 => (if bt409.1 = true then ((spec_l1Cur_pick.f s0_0 bt409.2.1 bt409.2.2 (y406.length : Int)).bind fun bt412 => ((spec_l1Cur_pick.f s0_0 bt412.2.1 bt412.2.2 13).bind fun bt415 => ((spec_l1Cur_pick.f s0_0 bt415.2.1 bt415.2.2 3).bind fun bt418 => ((spec_l1Cur_pick.f s0_0 bt418.2.1 bt418.2.2 8).bind fun bt421 => ((spec_l1Cur_among.f s0_0 bt421.2.1 bt421.2.2 (([0, 255, 256, 65536] : List Int))).bind fun bt427 => ((spec_l1Cur_pick.f s0_0 bt427.2.1 bt427.2.2 4).bind fun bt430 => (if 0 ≤ bt412.1 then (if bt412.1 < (y406.length : Int) then (some ((y406.set (bt412.1 : Int).toNat (⟨bt415.1, bt418.1, wrap64 (bt421.1 - 1), 0, bt427.1, bt430.1⟩ : S51)), bt430.2.1, bt430.2.2)) else (none)) else (none)))))))) else (some (y406, bt409.2.1, bt409.2.2)))) = some (r1, r2, r3) := by first | (rw [hy406]; with_reducible exact H) | (have H2_ := (Option.bind_some _ _).symm.trans H; rw [hy406]; with_reducible exact H2_) | (have H2_ := (Option.bind_some _ _).symm.trans H; with_reducible exact H2_) | with_reducible exact H | (rw [hy406]; exact H) | exact H
       have Ny406 := am_ hy406
       clear hy406
       replace H := Option.bind_eq_some_iff.mp H
       obtain ⟨⟨t409, t410, t411⟩, A140, H⟩ := H
       replace H : (if t409 = true then ((spec_l1Cur_pick.f s0_0 t410 t411 (y406.length : Int)).bind fun bt412 => ((spec_l1Cur_pick.f s0_0 bt412.2.1 bt412.2.2 13).bind fun bt415 => ((spec_l1Cur_pick.f s0_0 bt415.2.1 bt415.2.2 3).bind fun bt418 => ((spec_l1Cur_pick.f s0_0 bt418.2.1 bt418.2.2 8).bind fun bt421 => ((spec_l1Cur_among.f s0_0 bt421.2.1 bt421.2.2 (([0, 255, 256, 65536] : List Int))).bind fun bt427 => ((spec_l1Cur_pick.f s0_0 bt427.2.1 bt427.2.2 4).bind fun bt430 => (if 0 ≤ bt412.1 then (if bt412.1 < (y406.length : Int) then (some ((y406.set (bt412.1 : Int).toNat (⟨bt415.1, bt418.1, wrap64 (bt421.1 - 1), 0, bt427.1, bt430.1⟩ : S51)), bt430.2.1, bt430.2.2)) else (none)) else (none)))))))) else (some (y406, t410, t411))) = some (r1, r2, r3) := H
       have A14 := am_ A140
       clear A140
       by_cases c15 : t409 = true
       ·subst c15
        have H1 : ((spec_l1Cur_pick.f s0_0 t410 t411 (y406.length : Int)).bind fun bt412 => ((spec_l1Cur_pick.f s0_0 bt412.2.1 bt412.2.2 13).bind fun bt415 => ((spec_l1Cur_pick.f s0_0 bt415.2.1 bt415.2.2 3).bind fun bt418 => ((spec_l1Cur_pick.f s0_0 bt418.2.1 bt418.2.2 8).bind fun bt421 => ((spec_l1Cur_among.f s0_0 bt421.2.1 bt421.2.2 (([0, 255, 256, 65536] : List Int))).bind fun bt427 => ((spec_l1Cur_pick.f s0_0 bt427.2.1 bt427.2.2 4).bind fun bt430 => (if 0 ≤ bt412.1 then (if bt412.1 < (y406.length : Int) then (some ((y406.set (bt412.1 : Int).toNat (⟨bt415.1, bt418.1, wrap64 (bt421.1 - 1), 0, bt427.1, bt430.1⟩ : S51)), bt430.2.1, bt430.2.2)) else (none)) else (none)))))))) = some (r1, r2, r3) := by rw [if_pos rfl] at H; exact H
        clear H
        have H := H1
        clear H1
        replace H := Option.bind_eq_some_iff.mp H
        obtain ⟨⟨t412, t413, t414⟩, A160, H⟩ := H
        replace H : ((spec_l1Cur_pick.f s0_0 t413 t414 13).bind fun bt415 => ((spec_l1Cur_pick.f s0_0 bt415.2.1 bt415.2.2 3).bind fun bt418 => ((spec_l1Cur_pick.f s0_0 bt418.2.1 bt418.2.2 8).bind fun bt421 => ((spec_l1Cur_among.f s0_0 bt421.2.1 bt421.2.2 (([0, 255, 256, 65536] : List Int))).bind fun bt427 => ((spec_l1Cur_pick.f s0_0 bt427.2.1 bt427.2.2 4).bind fun bt430 => (if 0 ≤ t412 then (if t412 < (y406.length : Int) then (some ((y406.set (t412 : Int).toNat (⟨bt415.1, bt418.1, wrap64 (bt421.1 - 1), 0, bt427.1, bt430.1⟩ : S51)), bt430.2.1, bt430.2.2)) else (none)) else (none))))))) = some (r1, r2, r3) := H
        have A16 := am_ A160
        clear A160
        replace H := Option.bind_eq_some_iff.mp H
        obtain ⟨⟨t415, t416, t417⟩, A170, H⟩ := H
        replace H : ((spec_l1Cur_pick.f s0_0 t416 t417 3).bind fun bt418 => ((spec_l1Cur_pick.f s0_0 bt418.2.1 bt418.2.2 8).bind fun bt421 => ((spec_l1Cur_among.f s0_0 bt421.2.1 bt421.2.2 (([0, 255, 256, 65536] : List Int))).bind fun bt427 => ((spec_l1Cur_pick.f s0_0 bt427.2.1 bt427.2.2 4).bind fun bt430 => (if 0 ≤ t412 then (if t412 < (y406.length : Int) then (some ((y406.set (t412 : Int).toNat (⟨t415, bt418.1, wrap64 (bt421.1 - 1), 0, bt427.1, bt430.1⟩ : S51)), bt430.2.1, bt430.2.2)) else (none)) else (none)))))) = some (r1, r2, r3) := H
        have A17 := am_ A170
        clear A170
        replace H := Option.bind_eq_some_iff.mp H
        obtain ⟨⟨t418, t419, t420⟩, A180, H⟩ := H
        replace H : ((spec_l1Cur_pick.f s0_0 t419 t420 8).bind fun bt421 => ((spec_l1Cur_among.f s0_0 bt421.2.1 bt421.2.2 (([0, 255, 256, 65536] : List Int))).bind fun bt427 => ((spec_l1Cur_pick.f s0_0 bt427.2.1 bt427.2.2 4).bind fun bt430 => (if 0 ≤ t412 then (if t412 < (y406.length : Int) then (some ((y406.set (t412 : Int).toNat (⟨t415, t418, wrap64 (bt421.1 - 1), 0, bt427.1, bt430.1⟩ : S51)), bt430.2.1, bt430.2.2)) else (none)) else (none))))) = some (r1, r2, r3) := H
        have A18 := am_ A180
        clear A180
        replace H := Option.bind_eq_some_iff.mp H
        obtain ⟨⟨t421, t422, t423⟩, A190, H⟩ := H
        replace H : ((spec_l1Cur_among.f s0_0 t422 t423 (([0, 255, 256, 65536] : List Int))).bind fun bt427 => ((spec_l1Cur_pick.f s0_0 bt427.2.1 bt427.2.2 4).bind fun bt430 => (if 0 ≤ t412 then (if t412 < (y406.length : Int) then (some ((y406.set (t412 : Int).toNat (⟨t415, t418, wrap64 (t421 - 1), 0, bt427.1, bt430.1⟩ : S51)), bt430.2.1, bt430.2.2)) else (none)) else (none)))) = some (r1, r2, r3) := H
        have A19 := am_ A190
        clear A190
        obtain ⟨y424, hy424⟩ : ∃ y_ : List Int, y_ = (([0, 255, 256, 65536] : List Int)) := ⟨_, rfl⟩
        replace H : ((spec_l1Cur_among.f s0_0 t422 t423 y424).bind fun bt427 => ((spec_l1Cur_pick.f s0_0 bt427.2.1 bt427.2.2 4).bind fun bt430 => (if 0 ≤ t412 then (if t412 < (y406.length : Int) then (some ((y406.set (t412 : Int).toNat (⟨t415, t418, wrap64 (t421 - 1), 0, bt427.1, bt430.1⟩ : S51)), bt430.2.1, bt430.2.2)) else (none)) else (none)))) = some (r1, r2, r3) := by first | (rw [hy424]; with_reducible exact H) | (have H2_ := (Option.bind_some _ _).symm.trans H; rw [hy424]; with_reducible exact H2_) | (have H2_ := (Option.bind_some _ _).symm.trans H; with_reducible exact H2_) | with_reducible exact H | (rw [hy424]; exact H) | exact H
        have Ny424 := am_ hy424
        clear hy424
        replace H := Option.bind_eq_some_iff.mp H
        obtain ⟨⟨t427, t428, t429⟩, A200, H⟩ := H
        replace H : ((spec_l1Cur_pick.f s0_0 t428 t429 4).bind fun bt430 => (if 0 ≤ t412 then (if t412 < (y406.length : Int) then (some ((y406.set (t412 : Int).toNat (⟨t415, t418, wrap64 (t421 - 1), 0, t427, bt430.1⟩ : S51)), bt430.2.1, bt430.2.2)) else (none)) else (none))) = some (r1, r2, r3) := H
        have A20 := am_ A200
        clear A200
        replace H := Option.bind_eq_some_iff.mp H
        obtain ⟨⟨t430, t431, t432⟩, A210, H⟩ := H
        replace H : (if 0 ≤ t412 then (if t412 < (y406.length : Int) then (some ((y406.set (t412 : Int).toNat (⟨t415, t418, wrap64 (t421 - 1), 0, t427, t430⟩ : S51)), t431, t432)) else (none)) else (none)) = some (r1, r2, r3) := H
        have A21 := am_ A210
        clear A210
        by_cases c22 : 0 ≤ t412
        ·rw [if_pos c22] at H
         have c22b0 : decide (0 ≤ t412) = true := decide_eq_true c22
         clear c22
         by_cases c23 : t412 < (y406.length : Int)
         ·rw [if_pos c23] at H
          have c23b0 : decide (t412 < (y406.length : Int)) = true := decide_eq_true c23
          clear c23
          obtain ⟨y433, hy433⟩ : ∃ y_ : List (S51), y_ = (y406.set (t412 : Int).toNat (⟨t415, t418, wrap64 (t421 - 1), 0, t427, t430⟩ : S51)) := ⟨_, rfl⟩
          replace H : (some (y433, t431, t432)) = some (r1, r2, r3) := by first | (rw [hy433]; with_reducible exact H) | (have H2_ := (Option.bind_some _ _).symm.trans H; rw [hy433]; with_reducible exact H2_) | (have H2_ := (Option.bind_some _ _).symm.trans H; with_reducible exact H2_) | with_reducible exact H | (rw [hy433]; exact H) | exact H
          have Ny433 := am_ hy433
          clear hy433
          simp only [Option.some.injEq, Prod.mk.injEq] at H
          obtain ⟨rfl, rfl, rfl⟩ := H
          go_wp2_with (first | ((with_reducible refine gate_builtin (b := .append) (xs := #[.tmp 23, .tmp 25]) rfl ?_); at_builtin; refine Kd.R_append k51 w.heap.size rfl (.tmp 23) (.tmp 25) 26 51 (.agg #[(.int .i64 0), (.int .i64 0), (.int .i64 0), (.int .i64 0), (.int .i64 0), (.int .i64 0)]) 48 rfl Try.underlying26 info51 rfl (by decide) (by omega) u3 x3_2 (⟨11, 0, 0, 0, 0, 0⟩ : S51) [.int .i64 11, .int .i64 0, .int .i64 0, .int .i64 0, .int .i64 0, .int .i64 0] (fun _ => True) (fun _ => False) rfl rfl ?aP (fun _ hk => hk.elim) ?aF ?aO (Below.refl _ _) ?aS ?aL ?_; (case aP => exact k51_mkM _ _ _ (⟨11, 0, 0, 0, 0, 0⟩ : S51)); (case aF => exact (fun _ _ => trivial)); (case aO => exact (rq_ HO_3.out)); (case aS => exact (keep_size (w := w) (g := g) (row := none) y9_)); (case aL => have := LMc13.out; omega); intro v407 w25 ho hb hg hat; rw [← Ny406.out] at ho; replace HB := am_ (below_weaken y6_ HL.out hb); replace HI0 := am_ (IsS68.grown y7_ hg (IsS68.own_ne HI0.out HO_3.out (by decide))); replace HK := am_ (KeepBut.trans y9_ (KeepBut.of_grown hg g) (Kd.R_base2 HO_3.out)); have HO408 := am_ (ho); clear HO_3; clear ho hb hg hat) | ((with_reducible refine gl_ 77 rfl ?_); refine goesM_ (some 28) Try.func77 #[.pointer (some ⟨g, 0, none⟩), .int .i64 30] ?_; (with_reducible refine (spec_l1Cur_one.calls g s0_0 x1001_2 x1002_2 30 true t410 t411 w0 _ ?side1 ?side2 A14.out).mono ?_); (case side1 => repeat (first | (with_reducible first | exact HI0.out | apply IsS68.alloc | apply IsS68.drewN | apply IsS68.drew | apply IsS68.set_1 | apply IsS68.set_2) | exact HI0.out)); (case side2 => repeat (first | (with_reducible first | exact HB.out | apply below_alloc | apply pw_below_drewN | apply below_drew1 | refine below_set ?_ (IsS68.ge HI0.out)) | exact HB.out)); rintro e w26 ⟨rfl, hi, hb, hk⟩; refine ⟨_, rfl, ?_⟩; replace HO408 := am_ (Kd.R_mono (Kd.R_keep (IsS68.apart (show IsS68 w0 _ g s0_0 x1001_2 x1002_2 from by repeat (first | (with_reducible first | exact HI0.out | apply IsS68.alloc | apply IsS68.drewN | apply IsS68.drew | apply IsS68.set_1 | apply IsS68.set_2) | exact HI0.out)) (rq_ HO408.out) (by decide)) hk (fun _ h => h.2)) (fun _ h => h.1)); replace HK := am_ (KeepBut.trans y9_ hk (.inl rfl)); replace HB := am_ (hb); replace HI0 := am_ (hi); (try clear hb); (try clear hk); (try clear hi); obtain ⟨Ao27, co27, eo27⟩ := Kd.R_slice HO408.out; subst eo27) | ((with_reducible refine gl_ 76 rfl ?_); refine goesM_ (some 33) Try.func76 #[.pointer (some ⟨g, 0, none⟩), .int .i64 (y406.length : Int)] ?_; (with_reducible refine (spec_l1Cur_pick.calls g s0_0 t410 t411 (y406.length : Int) t412 t413 t414 w0 _ ?side1 ?side2 A16.out).mono ?_); (case side1 => repeat (first | (with_reducible first | exact HI0.out | apply IsS68.alloc | apply IsS68.drewN | apply IsS68.drew | apply IsS68.set_1 | apply IsS68.set_2) | exact HI0.out)); (case side2 => repeat (first | (with_reducible first | exact HB.out | apply below_alloc | apply pw_below_drewN | apply below_drew1 | refine below_set ?_ (IsS68.ge HI0.out)) | exact HB.out)); rintro e w28 ⟨rfl, hi, hb, hk⟩; refine ⟨_, rfl, ?_⟩; replace HO408 := am_ (Kd.R_mono (Kd.R_keep (IsS68.apart (show IsS68 w0 _ g s0_0 t410 t411 from by repeat (first | (with_reducible first | exact HI0.out | apply IsS68.alloc | apply IsS68.drewN | apply IsS68.drew | apply IsS68.set_1 | apply IsS68.set_2) | exact HI0.out)) (rq_ HO408.out) (by decide)) hk (fun _ h => h.2)) (fun _ h => h.1)); replace HK := am_ (KeepBut.trans y9_ hk (.inl rfl)); replace HB := am_ (hb); replace HI0 := am_ (hi); (try clear hb); (try clear hk); (try clear hi)) | ((with_reducible refine gl_ 76 rfl ?_); refine goesM_ (some 35) Try.func76 #[.pointer (some ⟨g, 0, none⟩), .int .i64 13] ?_; (with_reducible refine (spec_l1Cur_pick.calls g s0_0 t413 t414 13 t415 t416 t417 w0 _ ?side1 ?side2 A17.out).mono ?_); (case side1 => repeat (first | (with_reducible first | exact HI0.out | apply IsS68.alloc | apply IsS68.drewN | apply IsS68.drew | apply IsS68.set_1 | apply IsS68.set_2) | exact HI0.out)); (case side2 => repeat (first | (with_reducible first | exact HB.out | apply below_alloc | apply pw_below_drewN | apply below_drew1 | refine below_set ?_ (IsS68.ge HI0.out)) | exact HB.out)); rintro e w29 ⟨rfl, hi, hb, hk⟩; refine ⟨_, rfl, ?_⟩; replace HO408 := am_ (Kd.R_mono (Kd.R_keep (IsS68.apart (show IsS68 w0 _ g s0_0 t413 t414 from by repeat (first | (with_reducible first | exact HI0.out | apply IsS68.alloc | apply IsS68.drewN | apply IsS68.drew | apply IsS68.set_1 | apply IsS68.set_2) | exact HI0.out)) (rq_ HO408.out) (by decide)) hk (fun _ h => h.2)) (fun _ h => h.1)); replace HK := am_ (KeepBut.trans y9_ hk (.inl rfl)); replace HB := am_ (hb); replace HI0 := am_ (hi); (try clear hb); (try clear hk); (try clear hi)) | ((with_reducible refine gl_ 76 rfl ?_); refine goesM_ (some 37) Try.func76 #[.pointer (some ⟨g, 0, none⟩), .int .i64 3] ?_; (with_reducible refine (spec_l1Cur_pick.calls g s0_0 t416 t417 3 t418 t419 t420 w0 _ ?side1 ?side2 A18.out).mono ?_); (case side1 => repeat (first | (with_reducible first | exact HI0.out | apply IsS68.alloc | apply IsS68.drewN | apply IsS68.drew | apply IsS68.set_1 | apply IsS68.set_2) | exact HI0.out)); (case side2 => repeat (first | (with_reducible first | exact HB.out | apply below_alloc | apply pw_below_drewN | apply below_drew1 | refine below_set ?_ (IsS68.ge HI0.out)) | exact HB.out)); rintro e w30 ⟨rfl, hi, hb, hk⟩; refine ⟨_, rfl, ?_⟩; replace HO408 := am_ (Kd.R_mono (Kd.R_keep (IsS68.apart (show IsS68 w0 _ g s0_0 t416 t417 from by repeat (first | (with_reducible first | exact HI0.out | apply IsS68.alloc | apply IsS68.drewN | apply IsS68.drew | apply IsS68.set_1 | apply IsS68.set_2) | exact HI0.out)) (rq_ HO408.out) (by decide)) hk (fun _ h => h.2)) (fun _ h => h.1)); replace HK := am_ (KeepBut.trans y9_ hk (.inl rfl)); replace HB := am_ (hb); replace HI0 := am_ (hi); (try clear hb); (try clear hk); (try clear hi)) | ((with_reducible refine gl_ 76 rfl ?_); refine goesM_ (some 39) Try.func76 #[.pointer (some ⟨g, 0, none⟩), .int .i64 8] ?_; (with_reducible refine (spec_l1Cur_pick.calls g s0_0 t419 t420 8 t421 t422 t423 w0 _ ?side1 ?side2 A19.out).mono ?_); (case side1 => repeat (first | (with_reducible first | exact HI0.out | apply IsS68.alloc | apply IsS68.drewN | apply IsS68.drew | apply IsS68.set_1 | apply IsS68.set_2) | exact HI0.out)); (case side2 => repeat (first | (with_reducible first | exact HB.out | apply below_alloc | apply pw_below_drewN | apply below_drew1 | refine below_set ?_ (IsS68.ge HI0.out)) | exact HB.out)); rintro e w31 ⟨rfl, hi, hb, hk⟩; refine ⟨_, rfl, ?_⟩; replace HO408 := am_ (Kd.R_mono (Kd.R_keep (IsS68.apart (show IsS68 w0 _ g s0_0 t419 t420 from by repeat (first | (with_reducible first | exact HI0.out | apply IsS68.alloc | apply IsS68.drewN | apply IsS68.drew | apply IsS68.set_1 | apply IsS68.set_2) | exact HI0.out)) (rq_ HO408.out) (by decide)) hk (fun _ h => h.2)) (fun _ h => h.1)); replace HK := am_ (KeepBut.trans y9_ hk (.inl rfl)); replace HB := am_ (hb); replace HI0 := am_ (hi); (try clear hb); (try clear hk); (try clear hi)) | ((with_reducible refine gate_dst (N := 42) rfl ?_); refine Kd.R_lit (Kd.int .i64) _ 3 ?hg (N := 42) ?hd (xs := ([0, 255, 256, 65536] : List Int)) (inner := [.int .i64 0, .int .i64 255, .int .i64 256, .int .i64 65536]) (ok := fun _ => True) (okp := fun _ => True) ?hr ?hp (fun _ hk => hk) trivial (Below.refl _ _) (Nat.le_refl _) (by simp) ?_; (case hd => rfl); (case hg => rfl); (case hr => first | (go_simp; done) | (go_simp; rfl)); (case hp => exact (Reps.one (show Kd.M (Kd.int .i64) _ _ _ 0 [.int .i64 0] from rfl) (Reps.one (show Kd.M (Kd.int .i64) _ _ _ 255 [.int .i64 255] from rfl) (Reps.one (show Kd.M (Kd.int .i64) _ _ _ 256 [.int .i64 256] from rfl) (Reps.one (show Kd.M (Kd.int .i64) _ _ _ 65536 [.int .i64 65536] from rfl) (Reps.none _ _)))))); intro v425 w32 ho33 hb hg_ hnew_; clear hg_ hnew_; (first | rw [← Ny424.out] at ho33 | (simp only [Int.reduceToNat] at ho33; rw [← Ny424.out] at ho33)); replace HO408 := am_ (Kd.R_below (rq_ HO408.out) hb); have HO426 := am_ (Kd.R_lower ho33 (keep_size (w := w) (g := g) (row := none) y9_)); replace HK := am_ (KeepBut.trans y9_ (KeepBut.of_below hb g none) (.inl rfl)); replace HB := am_ (below_step y6_ hb); replace HI0 := am_ (IsS68.below y7_ hb); clear hb ho33; obtain ⟨Ao34, co34, eo34⟩ := Kd.R_slice HO426.out; subst eo34) | ((with_reducible refine gl_ 79 rfl ?_); refine goesM_ (some 43) Try.func79 #[.pointer (some ⟨g, 0, none⟩), .slice Ao34 y424.length co34] ?_; (with_reducible refine (spec_l1Cur_among.calls g s0_0 t422 t423 _ _ y424 t427 t428 t429 w0 _ ?side1 ?side2 ?side3 ?side4 ?side5 A20.out).mono ?_); (case side1 => repeat (first | (with_reducible first | exact HI0.out | apply IsS68.alloc | apply IsS68.drewN | apply IsS68.drew | apply IsS68.set_1 | apply IsS68.set_2) | exact HI0.out)); (case side2 => repeat (first | (with_reducible first | exact HB.out | apply below_alloc | apply pw_below_drewN | apply below_drew1 | refine below_set ?_ (IsS68.ge HI0.out)) | exact HB.out)); (case side3 => exact cm_ (Kd.R_reads' HO426.out).2.2); (case side4 => exact (Kd.R_reads' HO426.out).2.1); (case side5 => exact far_slice (IsS68.own_ne HI0.out HO426.out (by decide))); rintro e w35 ⟨rfl, hi, hb, hk⟩; refine ⟨_, rfl, ?_⟩; replace HO408 := am_ (Kd.R_mono (Kd.R_keep (IsS68.apart (show IsS68 w0 _ g s0_0 t422 t423 from by repeat (first | (with_reducible first | exact HI0.out | apply IsS68.alloc | apply IsS68.drewN | apply IsS68.drew | apply IsS68.set_1 | apply IsS68.set_2) | exact HI0.out)) (rq_ HO408.out) (by decide)) hk (fun _ h => h.2)) (fun _ h => h.1)); replace HO426 := am_ (Kd.R_mono (Kd.R_keep (IsS68.apart (show IsS68 w0 _ g s0_0 t422 t423 from by repeat (first | (with_reducible first | exact HI0.out | apply IsS68.alloc | apply IsS68.drewN | apply IsS68.drew | apply IsS68.set_1 | apply IsS68.set_2) | exact HI0.out)) (rq_ HO426.out) (by decide)) hk (fun _ h => h.2)) (fun _ h => h.1)); replace HK := am_ (KeepBut.trans y9_ hk (.inl rfl)); replace HB := am_ (hb); replace HI0 := am_ (hi); (try clear hb); (try clear hk); (try clear hi)) | ((with_reducible refine gl_ 76 rfl ?_); refine goesM_ (some 45) Try.func76 #[.pointer (some ⟨g, 0, none⟩), .int .i64 4] ?_; (with_reducible refine (spec_l1Cur_pick.calls g s0_0 t428 t429 4 t430 t431 t432 w0 _ ?side1 ?side2 A21.out).mono ?_); (case side1 => repeat (first | (with_reducible first | exact HI0.out | apply IsS68.alloc | apply IsS68.drewN | apply IsS68.drew | apply IsS68.set_1 | apply IsS68.set_2) | exact HI0.out)); (case side2 => repeat (first | (with_reducible first | exact HB.out | apply below_alloc | apply pw_below_drewN | apply below_drew1 | refine below_set ?_ (IsS68.ge HI0.out)) | exact HB.out)); rintro e w36 ⟨rfl, hi, hb, hk⟩; refine ⟨_, rfl, ?_⟩; replace HO408 := am_ (Kd.R_mono (Kd.R_keep (IsS68.apart (show IsS68 w0 _ g s0_0 t428 t429 from by repeat (first | (with_reducible first | exact HI0.out | apply IsS68.alloc | apply IsS68.drewN | apply IsS68.drew | apply IsS68.set_1 | apply IsS68.set_2) | exact HI0.out)) (rq_ HO408.out) (by decide)) hk (fun _ h => h.2)) (fun _ h => h.1)); replace HO426 := am_ (Kd.R_mono (Kd.R_keep (IsS68.apart (show IsS68 w0 _ g s0_0 t428 t429 from by repeat (first | (with_reducible first | exact HI0.out | apply IsS68.alloc | apply IsS68.drewN | apply IsS68.drew | apply IsS68.set_1 | apply IsS68.set_2) | exact HI0.out)) (rq_ HO426.out) (by decide)) hk (fun _ h => h.2)) (fun _ h => h.1)); replace HK := am_ (KeepBut.trans y9_ hk (.inl rfl)); replace HB := am_ (hb); replace HI0 := am_ (hi); (try clear hb); (try clear hk); (try clear hi); have p24 : 0 ≤ (t412 : Int) := od_; have q24 : (t412 : Int) < ((y406.length : Int) : Int) := od_; obtain ⟨go24, co24, eo24, gb24, gl24, cl24, HG24⟩ := Kd.R_form HO408.out (by omega); (first | cases eo24 | (injection eo24 with ea_ en_ ec_; (first | subst ea_ | (injection ea_ with ea_; subst ea_)); subst ec_; clear en_)); have GB24 := am_ gb24; have GG24 := am_ HG24; clear gb24 gl24 HG24; obtain ⟨ce24, hcl24, hM24, hcc24, hfr24⟩ := Kd.R_elem HO408.out z51 (t412 : Int) p24 q24; obtain rfl := k51_openM hM24; have hx24_0 : w36.cell? ⟨go24, (t412 : Int).toNat * 6, none⟩ = some (.int .i64 ((rd_T51 y406 t412).f0)) := hcc24 0 _ rfl; have hx24_1 : w36.cell? ⟨go24, (t412 : Int).toNat * 6 + 1, none⟩ = some (.int .i64 ((rd_T51 y406 t412).f1)) := hcc24 1 _ rfl; have hx24_2 : w36.cell? ⟨go24, (t412 : Int).toNat * 6 + 2, none⟩ = some (.int .i64 ((rd_T51 y406 t412).f2)) := hcc24 2 _ rfl; have hx24_3 : w36.cell? ⟨go24, (t412 : Int).toNat * 6 + 3, none⟩ = some (.int .i64 ((rd_T51 y406 t412).f3)) := hcc24 3 _ rfl; have hx24_4 : w36.cell? ⟨go24, (t412 : Int).toNat * 6 + 4, none⟩ = some (.int .i64 ((rd_T51 y406 t412).f4)) := hcc24 4 _ rfl; have hx24_5 : w36.cell? ⟨go24, (t412 : Int).toNat * 6 + 5, none⟩ = some (.int .i64 ((rd_T51 y406 t412).f5)) := hcc24 5 _ rfl; have hf24_0 : w36.frozen? ⟨go24, (t412 : Int).toNat * 6, none⟩ = false := hfr24 0; have hf24_1 : w36.frozen? ⟨go24, (t412 : Int).toNat * 6 + 1, none⟩ = false := hfr24 1; have hf24_2 : w36.frozen? ⟨go24, (t412 : Int).toNat * 6 + 2, none⟩ = false := hfr24 2; have hf24_3 : w36.frozen? ⟨go24, (t412 : Int).toNat * 6 + 3, none⟩ = false := hfr24 3; have hf24_4 : w36.frozen? ⟨go24, (t412 : Int).toNat * 6 + 4, none⟩ = false := hfr24 4; have hf24_5 : w36.frozen? ⟨go24, (t412 : Int).toNat * 6 + 5, none⟩ = false := hfr24 5; clear hcl24 hcc24 hfr24; (try clear hM24); replace p24 := eq_true p24; replace q24 := eq_true q24; have HX37 := am_ (show Kd.R k51 51 w36 w.heap.size (fun _ => True) (.slice (some ⟨go24, 0, none⟩) y406.length co27) y406 from (rq_ HO408.out)); obtain ⟨ce37, hcl37, hM37, hcc37, hfr37⟩ := Kd.R_elem HX37.out z51 (t412 : Int) (od_) (by have h_ : (t412 : Int) < ((y406.length : Int) : Int) := od_; first | exact h_ | (have e_ := (Kd.R_reads' HO408.out).1; omega) | simpa using h_); obtain rfl := k51_openM hM37; have HP37 := Kd.R_seg HX37.out (t412 : Int) (od_) (by have h_ : (t412 : Int) < ((y406.length : Int) : Int) := od_; first | exact h_ | (have e_ := (Kd.R_reads' HO408.out).1; omega) | simpa using h_) (seg := [.int .i64 t415, .int .i64 t418, .int .i64 (wrap64 (t421 - 1)), .int .i64 0, .int .i64 t427, .int .i64 t430]) (j := 0) hcl37 hcc37 (show 6 ≤ 6 from by decide) (x' := (⟨t415, t418, wrap64 (t421 - 1), 0, t427, t430⟩ : S51)) (k51_mkM _ _ _ (⟨t415, t418, wrap64 (t421 - 1), 0, t427, t430⟩ : S51) ) (fun _ hk => hk); have hx37_0 := hcc37 0 _ rfl; (try simp only [show (k51).sz = 6 from rfl, Nat.mul_one, Nat.add_zero] at hx37_0); have hf37_0 := hfr37 0; (try simp only [show (k51).sz = 6 from rfl, Nat.mul_one, Nat.add_zero] at hf37_0); have hx37_1 := hcc37 1 _ rfl; (try simp only [show (k51).sz = 6 from rfl, Nat.mul_one, Nat.add_zero] at hx37_1); have hf37_1 := hfr37 1; (try simp only [show (k51).sz = 6 from rfl, Nat.mul_one, Nat.add_zero] at hf37_1); have hx37_2 := hcc37 2 _ rfl; (try simp only [show (k51).sz = 6 from rfl, Nat.mul_one, Nat.add_zero] at hx37_2); have hf37_2 := hfr37 2; (try simp only [show (k51).sz = 6 from rfl, Nat.mul_one, Nat.add_zero] at hf37_2); have hx37_3 := hcc37 3 _ rfl; (try simp only [show (k51).sz = 6 from rfl, Nat.mul_one, Nat.add_zero] at hx37_3); have hf37_3 := hfr37 3; (try simp only [show (k51).sz = 6 from rfl, Nat.mul_one, Nat.add_zero] at hf37_3); have hx37_4 := hcc37 4 _ rfl; (try simp only [show (k51).sz = 6 from rfl, Nat.mul_one, Nat.add_zero] at hx37_4); have hf37_4 := hfr37 4; (try simp only [show (k51).sz = 6 from rfl, Nat.mul_one, Nat.add_zero] at hf37_4); have hx37_5 := hcc37 5 _ rfl; (try simp only [show (k51).sz = 6 from rfl, Nat.mul_one, Nat.add_zero] at hx37_5); have hf37_5 := hfr37 5; (try simp only [show (k51).sz = 6 from rfl, Nat.mul_one, Nat.add_zero] at hf37_5); clear hcl37 hcc37 hfr37; (try clear hM37)) | ((with_reducible refine gate_store (t := 51) (p := 47) rfl ?_); refine store_event (t := 51) (p := 47) (v := ?vo_w38) (w1 := ((((((w36.setCell ⟨go24, (t412 : Int).toNat * 6, none⟩ (.int .i64 t415)).setCell ⟨go24, (t412 : Int).toNat * 6 + 1, none⟩ (.int .i64 t418)).setCell ⟨go24, (t412 : Int).toNat * 6 + 2, none⟩ (.int .i64 (wrap64 (t421 - 1)))).setCell ⟨go24, (t412 : Int).toNat * 6 + 3, none⟩ (.int .i64 0)).setCell ⟨go24, (t412 : Int).toNat * 6 + 4, none⟩ (.int .i64 t427)).setCell ⟨go24, (t412 : Int).toNat * 6 + 5, none⟩ (.int .i64 t430))) ?hg ?ho ?hn ?hr ?_; (case ho => rfl); (case hg => rfl); (case hn => rfl); (case hr => first | (go_simp; done) | (go_simp; rfl)); intro w38 hw; have hg : w36.grownBy w38 (some go24) := (by rw [hw]; exact HP37.2); have hp_ : Kd.R k51 51 w38 w.heap.size (fun _ => True) (.slice (some ⟨go24, 0, none⟩) y406.length co27) y433 := (by rw [hw, Ny433.out]; exact HP37.1); clear HP37; replace HI0 := am_ (IsS68.grown y7_ hg (IsS68.own_ne HI0.out HO408.out (by decide))); replace HO426 := am_ (Kd.R_over' (v := (.slice (some ⟨go24, 0, none⟩) y406.length co27)) (rq_ HO426.out) (Kd.R_typed HO408.out) (by decide) hg); replace HB := am_ ((by rw [hw]; exact below_set (below_set (below_set (below_set (below_set (below_set (HB.out) (Nat.le_trans HL.out GB24.out)) (Nat.le_trans HL.out GB24.out)) (Nat.le_trans HL.out GB24.out)) (Nat.le_trans HL.out GB24.out)) (Nat.le_trans HL.out GB24.out)) (Nat.le_trans HL.out GB24.out) : Below w0.heap.size w0 w38)); replace HK := am_ (KeepBut.trans y9_ (KeepBut.of_grown hg g) (Kd.R_base2 HO408.out)); replace HO408 := am_ (hp_); clear hg hw hp_))
          go_ret
          exact ⟨_, by first | rfl | (simp [errW_none, errW_some] <;> rfl) | (simp [*, errW_none, errW_some] <;> rfl), rq_ HO408.out, by repeat (first | (with_reducible first | exact HI0.out | apply IsS68.alloc | apply IsS68.drewN | apply IsS68.drew | apply IsS68.set_1 | apply IsS68.set_2) | exact HI0.out), by repeat (first | (with_reducible first | exact HB.out | apply below_alloc | apply pw_below_drewN | apply below_drew1 | refine below_set ?_ (IsS68.ge HI0.out)) | exact HB.out), by repeat (first | (with_reducible first | exact HK.out | apply KeepBut.set_ | apply keep_drewN | apply keep_drew | apply keep_alloc) | exact HK.out)⟩
         ·rw [if_neg c23] at H
          exact absurd H (by simp)
        ·rw [if_neg c22] at H
         exact absurd H (by simp)
       ·replace c15 := Bool.eq_false_iff.mpr c15
        subst c15
        have H1 : (some (y406, t410, t411)) = some (r1, r2, r3) := by rw [if_neg (show ¬ (false = true) by decide)] at H; exact H
        clear H
        have H := H1
        clear H1
        simp only [Option.some.injEq, Prod.mk.injEq] at H
        obtain ⟨rfl, rfl, rfl⟩ := H
        go_wp2_with (first | ((with_reducible refine gate_builtin (b := .append) (xs := #[.tmp 23, .tmp 25]) rfl ?_); at_builtin; refine Kd.R_append k51 w.heap.size rfl (.tmp 23) (.tmp 25) 26 51 (.agg #[(.int .i64 0), (.int .i64 0), (.int .i64 0), (.int .i64 0), (.int .i64 0), (.int .i64 0)]) 48 rfl Try.underlying26 info51 rfl (by decide) (by omega) u3 x3_2 (⟨11, 0, 0, 0, 0, 0⟩ : S51) [.int .i64 11, .int .i64 0, .int .i64 0, .int .i64 0, .int .i64 0, .int .i64 0] (fun _ => True) (fun _ => False) rfl rfl ?aP (fun _ hk => hk.elim) ?aF ?aO (Below.refl _ _) ?aS ?aL ?_; (case aP => exact k51_mkM _ _ _ (⟨11, 0, 0, 0, 0, 0⟩ : S51)); (case aF => exact (fun _ _ => trivial)); (case aO => exact (rq_ HO_3.out)); (case aS => exact (keep_size (w := w) (g := g) (row := none) y9_)); (case aL => have := LMc13.out; omega); intro v407 w39 ho hb hg hat; rw [← Ny406.out] at ho; replace HB := am_ (below_weaken y6_ HL.out hb); replace HI0 := am_ (IsS68.grown y7_ hg (IsS68.own_ne HI0.out HO_3.out (by decide))); replace HK := am_ (KeepBut.trans y9_ (KeepBut.of_grown hg g) (Kd.R_base2 HO_3.out)); have HO408 := am_ (ho); clear HO_3; clear ho hb hg hat) | ((with_reducible refine gl_ 77 rfl ?_); refine goesM_ (some 28) Try.func77 #[.pointer (some ⟨g, 0, none⟩), .int .i64 30] ?_; (with_reducible refine (spec_l1Cur_one.calls g s0_0 x1001_2 x1002_2 30 false t410 t411 w0 _ ?side1 ?side2 A14.out).mono ?_); (case side1 => repeat (first | (with_reducible first | exact HI0.out | apply IsS68.alloc | apply IsS68.drewN | apply IsS68.drew | apply IsS68.set_1 | apply IsS68.set_2) | exact HI0.out)); (case side2 => repeat (first | (with_reducible first | exact HB.out | apply below_alloc | apply pw_below_drewN | apply below_drew1 | refine below_set ?_ (IsS68.ge HI0.out)) | exact HB.out)); rintro e w40 ⟨rfl, hi, hb, hk⟩; refine ⟨_, rfl, ?_⟩; replace HO408 := am_ (Kd.R_mono (Kd.R_keep (IsS68.apart (show IsS68 w0 _ g s0_0 x1001_2 x1002_2 from by repeat (first | (with_reducible first | exact HI0.out | apply IsS68.alloc | apply IsS68.drewN | apply IsS68.drew | apply IsS68.set_1 | apply IsS68.set_2) | exact HI0.out)) (rq_ HO408.out) (by decide)) hk (fun _ h => h.2)) (fun _ h => h.1)); replace HK := am_ (KeepBut.trans y9_ hk (.inl rfl)); replace HB := am_ (hb); replace HI0 := am_ (hi); (try clear hb); (try clear hk); (try clear hi)))
        go_ret
        exact ⟨_, by first | rfl | (simp [errW_none, errW_some] <;> rfl) | (simp [*, errW_none, errW_some] <;> rfl), rq_ HO408.out, by repeat (first | (with_reducible first | exact HI0.out | apply IsS68.alloc | apply IsS68.drewN | apply IsS68.drew | apply IsS68.set_1 | apply IsS68.set_2) | exact HI0.out), by repeat (first | (with_reducible first | exact HB.out | apply below_alloc | apply pw_below_drewN | apply below_drew1 | refine below_set ?_ (IsS68.ge HI0.out)) | exact HB.out), by repeat (first | (with_reducible first | exact HK.out | apply KeepBut.set_ | apply keep_drewN | apply keep_drew | apply keep_alloc) | exact HK.out)⟩
      ·rw [if_neg c13] at H
       exact absurd H (by simp)
def spec_l1Cur_ctx.l0 : Nat → List Int → Int → List Int → Int → Int → Option (List Int × Int × Int)
 | 0, _, _, _, _, _ => none
 | k + 1, x3, x4, x1000, x1001, x1002 => if x4 < 8 then ((spec_l1Cur_pick.f x1000 x1001 x1002 256).bind fun bt434 => ((spec_l1Cur_among.f x1000 bt434.2.1 bt434.2.2 (([0, 1, 7, 8, 255, bt434.1] : List Int))).bind fun bt440 => (if x3.length < 17592186044416 then (spec_l1Cur_ctx.l0 k (x3 ++ [bt440.1]) (wrap64 (x4 + 1)) x1000 bt440.2.1 bt440.2.2) else (none)))) else ((spec_l1Cur_one.f x1000 x1001 x1002 30).bind fun bt446 => (if bt446.1 = true then ((spec_l1Cur_among.f x1000 bt446.2.1 bt446.2.2 (([(-1), 256] : List Int))).bind fun bt452 => (if 0 < (x3.length : Int) then (some ((x3.set (0 : Int).toNat bt452.1), bt452.2.1, bt452.2.2)) else (none))) else (some (x3, bt446.2.1, bt446.2.2))))
def spec_l1Cur_ctx.f (k : Nat) (s0_0 : List Int) (s0_1 : Int) (s0_2 : Int) : Option (List Int × Int × Int) := spec_l1Cur_ctx.l0 k ([] : List Int) 0 s0_0 s0_1 s0_2
set_option maxHeartbeats 8000000 in
set_option maxRecDepth 100000 in
theorem spec_l1Cur_ctx.calls (k : Nat) (g : Nat) (s0_0 : List Int) (s0_1 : Int) (s0_2 : Int) (r1 : List Int) (r2 : Int) (r3 : Int) (w0 w : World) (hI : IsS68 w0 w g s0_0 s0_1 s0_2) (hB : Below w0.heap.size w0 w) (h : spec_l1Cur_ctx.f k s0_0 s0_1 s0_2 = some (r1, r2, r3)) :
  Calls Try.prog 67 #[.pointer (some ⟨g, 0, none⟩)] w fun e w' => ∃ v0_ : Value, e = .returned (v0_) ∧ Kd.R (Kd.int .i64) 3 w' w.heap.size (fun _ => True) v0_ r1 ∧ IsS68 w0 w' g s0_0 r2 r3 ∧ Below w0.heap.size w0 w' ∧ KeepBut w w' g none := by
 have HI0 := am_ hI
 have HK := am_ (KeepBut.refl w g none)
 have HL := am_ hB.size
 clear hI
 have HW0 := am_ hB.size
 have HB := am_ hB
 clear hB
 have H : (spec_l1Cur_ctx.l0 k ([] : List Int) 0 s0_0 s0_1 s0_2) = some (r1, r2, r3) := h
 clear h
 have H' := am_ H
 clear H
 go_enter Try.func67, Try.ntmps67
 go_wp2
 go_loopg [3, 4] k (fun kq v3 v4 w' => ∃ (x3_1 : List Int) (x4_1 : Int) (x1001_1 : Int) (x1002_1 : Int), v4 = .int .i64 x4_1 ∧ Aside0 (spec_l1Cur_ctx.l0 kq x3_1 x4_1 s0_0 x1001_1 x1002_1 = some (r1, r2, r3)) ∧ Aside0 (kq ≤ k) ∧ Aside0 (Kd.R (Kd.int .i64) 3 w' w.heap.size (fun _ => True) v3 x3_1) ∧ Aside0 (IsS68 w0 w' g s0_0 x1001_1 x1002_1) ∧ Aside0 (KeepBut w w' g none) ∧ Aside0 (Below w0.heap.size w0 w'))
 case atStart => exact ⟨(([] : List Int)), (0), (s0_1), (s0_2), y14_, H', ⟨Nat.le_refl _⟩, ⟨by first | exact Kd.R_nil _ _ _ _ _ | exact Kd.N_nil _ _ _ _ _ | exact Kd.V_nil _ _ _ _ _ | exact Kd.Q_nil _ _ _ _ _ | exact Kd.S_nil _ _ _ _ _⟩, ⟨by repeat (first | (with_reducible first | exact HI0.out | apply IsS68.alloc | apply IsS68.drewN | apply IsS68.drew | apply IsS68.set_1 | apply IsS68.set_2) | exact HI0.out)⟩, ⟨by repeat (first | (with_reducible first | exact HK.out | apply KeepBut.set_ | apply keep_drewN | apply keep_drew | apply keep_alloc) | exact HK.out)⟩, ⟨by repeat (first | (with_reducible first | exact HB.out | apply below_alloc | apply pw_below_drewN | apply below_drew1 | refine below_set ?_ (IsS68.ge HI0.out)) | exact HB.out)⟩⟩
 case round =>
  clear H'
  obtain ⟨x3_1, x4_1, x1001_1, x1002_1, rfl, HA, HK1, HO_3, HI0, HK, HB⟩ := hrel
  cases gk with
  | zero => exact absurd HA.out (by simp [spec_l1Cur_ctx.l0])
  | succ k1 =>
   have H := HA.out
   clear HA
   simp only [spec_l1Cur_ctx.l0] at H
   by_cases c2 : x4_1 < 8
   ·rw [if_pos c2] at H
    have c2b0 : decide (x4_1 < 8) = true := decide_eq_true c2
    clear c2
    replace H := Option.bind_eq_some_iff.mp H
    obtain ⟨⟨t434, t435, t436⟩, A30, H⟩ := H
    replace H : ((spec_l1Cur_among.f s0_0 t435 t436 (([0, 1, 7, 8, 255, t434] : List Int))).bind fun bt440 => (if x3_1.length < 17592186044416 then (spec_l1Cur_ctx.l0 k1 (x3_1 ++ [bt440.1]) (wrap64 (x4_1 + 1)) s0_0 bt440.2.1 bt440.2.2) else (none))) = some (r1, r2, r3) := H
    have A3 := am_ A30
    clear A30
    obtain ⟨y437, hy437⟩ : ∃ y_ : List Int, y_ = (([0, 1, 7, 8, 255, t434] : List Int)) := ⟨_, rfl⟩
    replace H : ((spec_l1Cur_among.f s0_0 t435 t436 y437).bind fun bt440 => (if x3_1.length < 17592186044416 then (spec_l1Cur_ctx.l0 k1 (x3_1 ++ [bt440.1]) (wrap64 (x4_1 + 1)) s0_0 bt440.2.1 bt440.2.2) else (none))) = some (r1, r2, r3) := by first | (rw [hy437]; with_reducible exact H) | (have H2_ := (Option.bind_some _ _).symm.trans H; rw [hy437]; with_reducible exact H2_) | (have H2_ := (Option.bind_some _ _).symm.trans H; with_reducible exact H2_) | with_reducible exact H | (rw [hy437]; exact H) | exact H
    have Ny437 := am_ hy437
    clear hy437
    replace H := Option.bind_eq_some_iff.mp H
    obtain ⟨⟨t440, t441, t442⟩, A40, H⟩ := H
    replace H : (if x3_1.length < 17592186044416 then (spec_l1Cur_ctx.l0 k1 (x3_1 ++ [t440]) (wrap64 (x4_1 + 1)) s0_0 t441 t442) else (none)) = some (r1, r2, r3) := H
    have A4 := am_ A40
    clear A40
    by_cases c5 : x3_1.length < 17592186044416
    ·rw [if_pos c5] at H
     have LMc5 := am_ c5
     clear c5
     obtain ⟨y443, hy443⟩ : ∃ y_ : List Int, y_ = (x3_1 ++ [t440]) := ⟨_, rfl⟩
     replace H : (spec_l1Cur_ctx.l0 k1 y443 (wrap64 (x4_1 + 1)) s0_0 t441 t442) = some (r1, r2, r3) := by first | (rw [hy443]; with_reducible exact H) | (have H2_ := (Option.bind_some _ _).symm.trans H; rw [hy443]; with_reducible exact H2_) | (have H2_ := (Option.bind_some _ _).symm.trans H; with_reducible exact H2_) | with_reducible exact H | (rw [hy443]; exact H) | exact H
     have Ny443 := am_ hy443
     clear hy443
     have H' := am_ H
     clear H
     go_wp2_with (first | ((with_reducible refine gl_ 76 rfl ?_); refine goesM_ (some 12) Try.func76 #[.pointer (some ⟨g, 0, none⟩), .int .i64 256] ?_; (with_reducible refine (spec_l1Cur_pick.calls g s0_0 x1001_1 x1002_1 256 t434 t435 t436 w0 _ ?side1 ?side2 A3.out).mono ?_); (case side1 => repeat (first | (with_reducible first | exact HI0.out | apply IsS68.alloc | apply IsS68.drewN | apply IsS68.drew | apply IsS68.set_1 | apply IsS68.set_2) | exact HI0.out)); (case side2 => repeat (first | (with_reducible first | exact HB.out | apply below_alloc | apply pw_below_drewN | apply below_drew1 | refine below_set ?_ (IsS68.ge HI0.out)) | exact HB.out)); rintro e w6 ⟨rfl, hi, hb, hk⟩; refine ⟨_, rfl, ?_⟩; replace HO_3 := am_ (Kd.R_mono (Kd.R_keep (IsS68.apart (show IsS68 w0 _ g s0_0 x1001_1 x1002_1 from by repeat (first | (with_reducible first | exact HI0.out | apply IsS68.alloc | apply IsS68.drewN | apply IsS68.drew | apply IsS68.set_1 | apply IsS68.set_2) | exact HI0.out)) (rq_ HO_3.out) (by decide)) hk (fun _ h => h.2)) (fun _ h => h.1)); replace HK := am_ (KeepBut.trans y9_ hk (.inl rfl)); replace HB := am_ (hb); replace HI0 := am_ (hi); (try clear hb); (try clear hk); (try clear hi)) | ((with_reducible refine gate_dst (N := 13) rfl ?_); refine Kd.R_lit (Kd.int .i64) _ 3 ?hg (N := 13) ?hd (xs := ([0, 1, 7, 8, 255, t434] : List Int)) (inner := [.int .i64 0, .int .i64 1, .int .i64 7, .int .i64 8, .int .i64 255, .int .i64 t434]) (ok := fun _ => True) (okp := fun _ => True) ?hr ?hp (fun _ hk => hk) trivial (Below.refl _ _) (Nat.le_refl _) (by simp) ?_; (case hd => rfl); (case hg => rfl); (case hr => first | (go_simp; done) | (go_simp; rfl)); (case hp => exact (Reps.one (show Kd.M (Kd.int .i64) _ _ _ 0 [.int .i64 0] from rfl) (Reps.one (show Kd.M (Kd.int .i64) _ _ _ 1 [.int .i64 1] from rfl) (Reps.one (show Kd.M (Kd.int .i64) _ _ _ 7 [.int .i64 7] from rfl) (Reps.one (show Kd.M (Kd.int .i64) _ _ _ 8 [.int .i64 8] from rfl) (Reps.one (show Kd.M (Kd.int .i64) _ _ _ 255 [.int .i64 255] from rfl) (Reps.one (show Kd.M (Kd.int .i64) _ _ _ t434 [.int .i64 t434] from rfl) (Reps.none _ _)))))))); intro v438 w7 ho8 hb hg_ hnew_; clear hg_ hnew_; (first | rw [← Ny437.out] at ho8 | (simp only [Int.reduceToNat] at ho8; rw [← Ny437.out] at ho8)); have HO439 := am_ (Kd.R_lower (Kd.R_new' ho8 (Kd.R_lt (rq_ HO_3.out))) (keep_size (w := w) (g := g) (row := none) y9_)); replace HO_3 := am_ (Kd.R_elder' (rq_ HO_3.out) (Kd.R_base ho8) hb); replace HK := am_ (KeepBut.trans y9_ (KeepBut.of_below hb g none) (.inl rfl)); replace HB := am_ (below_step y6_ hb); replace HI0 := am_ (IsS68.below y7_ hb); clear hb ho8; obtain ⟨Ao9, co9, eo9⟩ := Kd.R_slice HO439.out; subst eo9) | ((with_reducible refine gl_ 79 rfl ?_); refine goesM_ (some 14) Try.func79 #[.pointer (some ⟨g, 0, none⟩), .slice Ao9 y437.length co9] ?_; (with_reducible refine (spec_l1Cur_among.calls g s0_0 t435 t436 _ _ y437 t440 t441 t442 w0 _ ?side1 ?side2 ?side3 ?side4 ?side5 A4.out).mono ?_); (case side1 => repeat (first | (with_reducible first | exact HI0.out | apply IsS68.alloc | apply IsS68.drewN | apply IsS68.drew | apply IsS68.set_1 | apply IsS68.set_2) | exact HI0.out)); (case side2 => repeat (first | (with_reducible first | exact HB.out | apply below_alloc | apply pw_below_drewN | apply below_drew1 | refine below_set ?_ (IsS68.ge HI0.out)) | exact HB.out)); (case side3 => exact cm_ (Kd.R_reads' HO439.out).2.2); (case side4 => exact (Kd.R_reads' HO439.out).2.1); (case side5 => exact far_slice (IsS68.own_ne HI0.out HO439.out (by decide))); rintro e w10 ⟨rfl, hi, hb, hk⟩; refine ⟨_, rfl, ?_⟩; replace HO_3 := am_ (Kd.R_mono (Kd.R_keep (IsS68.apart (show IsS68 w0 _ g s0_0 t435 t436 from by repeat (first | (with_reducible first | exact HI0.out | apply IsS68.alloc | apply IsS68.drewN | apply IsS68.drew | apply IsS68.set_1 | apply IsS68.set_2) | exact HI0.out)) (rq_ HO_3.out) (by decide)) hk (fun _ h => h.2)) (fun _ h => h.1)); replace HO439 := am_ (Kd.R_mono (Kd.R_keep (IsS68.apart (show IsS68 w0 _ g s0_0 t435 t436 from by repeat (first | (with_reducible first | exact HI0.out | apply IsS68.alloc | apply IsS68.drewN | apply IsS68.drew | apply IsS68.set_1 | apply IsS68.set_2) | exact HI0.out)) (rq_ HO439.out) (by decide)) hk (fun _ h => h.2)) (fun _ h => h.1)); replace HK := am_ (KeepBut.trans y9_ hk (.inl rfl)); replace HB := am_ (hb); replace HI0 := am_ (hi); (try clear hb); (try clear hk); (try clear hi)) | ((with_reducible refine gate_builtin (b := .append) (xs := #[.tmp 9, .tmp 15]) rfl ?_); at_builtin; refine Kd.R_append (Kd.int .i64) w.heap.size rfl (.tmp 9) (.tmp 15) 30 3 (.int .i64 0) 8 rfl Try.underlying30 info3 rfl (by decide) (by omega) u3 x3_1 t440 [.int .i64 t440] (fun k_ => some k_ ≠ (.slice Ao9 y437.length co9 : Value).ownBlock) (fun _ => False) rfl rfl ?aP (fun _ hk => hk.elim) ?aF ?aO (Below.refl _ _) ?aS ?aL ?_; (case aP => exact rfl); (case aF => exact (fun k_ hk => Kd.fresh' (Kd.R_lt (rq_ HO439.out)) k_ hk)); (case aO => exact (rq_ (Kd.R_mono HO_3.out (fun _ hk => hk.2)))); (case aS => exact (keep_size (w := w) (g := g) (row := none) y9_)); (case aL => have := LMc5.out; omega); intro v444 w11 ho hb hg hat; rw [← Ny443.out] at ho; replace HO439 := am_ (Kd.R_after (ok := (fun _ => True)) (rq_ HO439.out) hg hat); replace HB := am_ (below_weaken y6_ HL.out hb); replace HI0 := am_ (IsS68.grown y7_ hg (IsS68.own_ne HI0.out HO_3.out (by decide))); replace HK := am_ (KeepBut.trans y9_ (KeepBut.of_grown hg g) (Kd.R_base2 HO_3.out)); have HO445 := am_ (ho); clear HO_3; clear ho hb hg hat))
     go_roundg k1
     case measure => have := HK1.out; omega
     case rel => exact ⟨(y443), (wrap64 (x4_1 + 1)), (t441), (t442), y14_, H', ⟨by have := HK1.out; omega⟩, ⟨rq_ (Kd.R_mono HO445.out (fun _ hk => trivial))⟩, ⟨by repeat (first | (with_reducible first | exact HI0.out | apply IsS68.alloc | apply IsS68.drewN | apply IsS68.drew | apply IsS68.set_1 | apply IsS68.set_2) | exact HI0.out)⟩, ⟨by repeat (first | (with_reducible first | exact HK.out | apply KeepBut.set_ | apply keep_drewN | apply keep_drew | apply keep_alloc) | exact HK.out)⟩, ⟨by repeat (first | (with_reducible first | exact HB.out | apply below_alloc | apply pw_below_drewN | apply below_drew1 | refine below_set ?_ (IsS68.ge HI0.out)) | exact HB.out)⟩⟩
    ·rw [if_neg c5] at H
     exact absurd H (by simp)
   ·rw [if_neg c2] at H
    have c2b0 : decide (x4_1 < 8) = false := decide_eq_false c2
    clear c2
    replace H := Option.bind_eq_some_iff.mp H
    obtain ⟨⟨t446, t447, t448⟩, A120, H⟩ := H
    replace H : (if t446 = true then ((spec_l1Cur_among.f s0_0 t447 t448 (([(-1), 256] : List Int))).bind fun bt452 => (if 0 < (x3_1.length : Int) then (some ((x3_1.set (0 : Int).toNat bt452.1), bt452.2.1, bt452.2.2)) else (none))) else (some (x3_1, t447, t448))) = some (r1, r2, r3) := H
    have A12 := am_ A120
    clear A120
    by_cases c13 : t446 = true
    ·subst c13
     have H1 : ((spec_l1Cur_among.f s0_0 t447 t448 (([(-1), 256] : List Int))).bind fun bt452 => (if 0 < (x3_1.length : Int) then (some ((x3_1.set (0 : Int).toNat bt452.1), bt452.2.1, bt452.2.2)) else (none))) = some (r1, r2, r3) := by rw [if_pos rfl] at H; exact H
     clear H
     have H := H1
     clear H1
     obtain ⟨y449, hy449⟩ : ∃ y_ : List Int, y_ = (([(-1), 256] : List Int)) := ⟨_, rfl⟩
     replace H : ((spec_l1Cur_among.f s0_0 t447 t448 y449).bind fun bt452 => (if 0 < (x3_1.length : Int) then (some ((x3_1.set (0 : Int).toNat bt452.1), bt452.2.1, bt452.2.2)) else (none))) = some (r1, r2, r3) := by first | (rw [hy449]; with_reducible exact H) | (have H2_ := (Option.bind_some _ _).symm.trans H; rw [hy449]; with_reducible exact H2_) | (have H2_ := (Option.bind_some _ _).symm.trans H; with_reducible exact H2_) | with_reducible exact H | (rw [hy449]; exact H) | exact H
     have Ny449 := am_ hy449
     clear hy449
     replace H := Option.bind_eq_some_iff.mp H
     obtain ⟨⟨t452, t453, t454⟩, A140, H⟩ := H
     replace H : (if 0 < (x3_1.length : Int) then (some ((x3_1.set (0 : Int).toNat t452), t453, t454)) else (none)) = some (r1, r2, r3) := H
     have A14 := am_ A140
     clear A140
     by_cases c15 : 0 < (x3_1.length : Int)
     ·rw [if_pos c15] at H
      have c15b0 : decide (0 < (x3_1.length : Int)) = true := decide_eq_true c15
      have c15b1 : decide (0 < x3_1.length) = true := decide_eq_true (by omega)
      clear c15
      obtain ⟨y455, hy455⟩ : ∃ y_ : List Int, y_ = (x3_1.set (0 : Int).toNat t452) := ⟨_, rfl⟩
      replace H : (some (y455, t453, t454)) = some (r1, r2, r3) := by first | (rw [hy455]; with_reducible exact H) | (have H2_ := (Option.bind_some _ _).symm.trans H; rw [hy455]; with_reducible exact H2_) | (have H2_ := (Option.bind_some _ _).symm.trans H; with_reducible exact H2_) | with_reducible exact H | (rw [hy455]; exact H) | exact H
      have Ny455 := am_ hy455
      clear hy455
      simp only [Option.some.injEq, Prod.mk.injEq] at H
      obtain ⟨rfl, rfl, rfl⟩ := H
      go_wp2_with (first | ((with_reducible refine gl_ 77 rfl ?_); refine goesM_ (some 18) Try.func77 #[.pointer (some ⟨g, 0, none⟩), .int .i64 30] ?_; (with_reducible refine (spec_l1Cur_one.calls g s0_0 x1001_1 x1002_1 30 true t447 t448 w0 _ ?side1 ?side2 A12.out).mono ?_); (case side1 => repeat (first | (with_reducible first | exact HI0.out | apply IsS68.alloc | apply IsS68.drewN | apply IsS68.drew | apply IsS68.set_1 | apply IsS68.set_2) | exact HI0.out)); (case side2 => repeat (first | (with_reducible first | exact HB.out | apply below_alloc | apply pw_below_drewN | apply below_drew1 | refine below_set ?_ (IsS68.ge HI0.out)) | exact HB.out)); rintro e w17 ⟨rfl, hi, hb, hk⟩; refine ⟨_, rfl, ?_⟩; replace HO_3 := am_ (Kd.R_mono (Kd.R_keep (IsS68.apart (show IsS68 w0 _ g s0_0 x1001_1 x1002_1 from by repeat (first | (with_reducible first | exact HI0.out | apply IsS68.alloc | apply IsS68.drewN | apply IsS68.drew | apply IsS68.set_1 | apply IsS68.set_2) | exact HI0.out)) (rq_ HO_3.out) (by decide)) hk (fun _ h => h.2)) (fun _ h => h.1)); replace HK := am_ (KeepBut.trans y9_ hk (.inl rfl)); replace HB := am_ (hb); replace HI0 := am_ (hi); (try clear hb); (try clear hk); (try clear hi)) | ((with_reducible refine gate_dst (N := 21) rfl ?_); refine Kd.R_lit (Kd.int .i64) _ 3 ?hg (N := 21) ?hd (xs := ([(-1), 256] : List Int)) (inner := [.int .i64 (-1), .int .i64 256]) (ok := fun _ => True) (okp := fun _ => True) ?hr ?hp (fun _ hk => hk) trivial (Below.refl _ _) (Nat.le_refl _) (by simp) ?_; (case hd => rfl); (case hg => rfl); (case hr => first | (go_simp; done) | (go_simp; rfl)); (case hp => exact (Reps.one (show Kd.M (Kd.int .i64) _ _ _ (-1) [.int .i64 (-1)] from rfl) (Reps.one (show Kd.M (Kd.int .i64) _ _ _ 256 [.int .i64 256] from rfl) (Reps.none _ _)))); intro v450 w18 ho19 hb hg_ hnew_; clear hg_ hnew_; (first | rw [← Ny449.out] at ho19 | (simp only [Int.reduceToNat] at ho19; rw [← Ny449.out] at ho19)); have HO451 := am_ (Kd.R_lower (Kd.R_new' ho19 (Kd.R_lt (rq_ HO_3.out))) (keep_size (w := w) (g := g) (row := none) y9_)); replace HO_3 := am_ (Kd.R_elder' (rq_ HO_3.out) (Kd.R_base ho19) hb); replace HK := am_ (KeepBut.trans y9_ (KeepBut.of_below hb g none) (.inl rfl)); replace HB := am_ (below_step y6_ hb); replace HI0 := am_ (IsS68.below y7_ hb); clear hb ho19; obtain ⟨Ao20, co20, eo20⟩ := Kd.R_slice HO451.out; subst eo20) | ((with_reducible refine gl_ 79 rfl ?_); refine goesM_ (some 22) Try.func79 #[.pointer (some ⟨g, 0, none⟩), .slice Ao20 y449.length co20] ?_; (with_reducible refine (spec_l1Cur_among.calls g s0_0 t447 t448 _ _ y449 t452 t453 t454 w0 _ ?side1 ?side2 ?side3 ?side4 ?side5 A14.out).mono ?_); (case side1 => repeat (first | (with_reducible first | exact HI0.out | apply IsS68.alloc | apply IsS68.drewN | apply IsS68.drew | apply IsS68.set_1 | apply IsS68.set_2) | exact HI0.out)); (case side2 => repeat (first | (with_reducible first | exact HB.out | apply below_alloc | apply pw_below_drewN | apply below_drew1 | refine below_set ?_ (IsS68.ge HI0.out)) | exact HB.out)); (case side3 => exact cm_ (Kd.R_reads' HO451.out).2.2); (case side4 => exact (Kd.R_reads' HO451.out).2.1); (case side5 => exact far_slice (IsS68.own_ne HI0.out HO451.out (by decide))); rintro e w21 ⟨rfl, hi, hb, hk⟩; refine ⟨_, rfl, ?_⟩; replace HO_3 := am_ (Kd.R_mono (Kd.R_keep (IsS68.apart (show IsS68 w0 _ g s0_0 t447 t448 from by repeat (first | (with_reducible first | exact HI0.out | apply IsS68.alloc | apply IsS68.drewN | apply IsS68.drew | apply IsS68.set_1 | apply IsS68.set_2) | exact HI0.out)) (rq_ HO_3.out) (by decide)) hk (fun _ h => h.2)) (fun _ h => h.1)); replace HO451 := am_ (Kd.R_mono (Kd.R_keep (IsS68.apart (show IsS68 w0 _ g s0_0 t447 t448 from by repeat (first | (with_reducible first | exact HI0.out | apply IsS68.alloc | apply IsS68.drewN | apply IsS68.drew | apply IsS68.set_1 | apply IsS68.set_2) | exact HI0.out)) (rq_ HO451.out) (by decide)) hk (fun _ h => h.2)) (fun _ h => h.1)); replace HK := am_ (KeepBut.trans y9_ hk (.inl rfl)); replace HB := am_ (hb); replace HI0 := am_ (hi); (try clear hb); (try clear hk); (try clear hi); have p16 : 0 ≤ (0 : Int) := (by omega); have q16 : (0 : Int) < ((x3_1.length : Int) : Int) := od_; have qi16 : (0 < x3_1.length) = True := eq_true (by omega); obtain ⟨go16, co16, eo16, gb16, gl16, cl16, HG16⟩ := Kd.R_form HO_3.out (by omega); (first | cases eo16 | (injection eo16 with ea_ en_ ec_; (first | subst ea_ | (injection ea_ with ea_; subst ea_)); subst ec_; clear en_)); have GB16 := am_ gb16; have GG16 := am_ HG16; clear gb16 gl16 HG16; obtain ⟨hx16_0, hf16_0⟩ := Kd.R_celln 0 HO_3.out (0 : Int) p16 q16; (try rw [show ((0 : Int)).toNat = 0 from rfl] at hx16_0); (try simp only [Nat.reduceMul, Nat.zero_mul, Nat.zero_add, Nat.reduceAdd] at hx16_0); (try rw [show ((0 : Int)).toNat = 0 from rfl] at hf16_0); (try simp only [Nat.reduceMul, Nat.zero_mul, Nat.zero_add, Nat.reduceAdd] at hf16_0); replace p16 := eq_true p16; replace q16 := eq_true q16; have n_ := am_ (Kd.R_mono (ok' := (fun k_ => some k_ ≠ (.slice Ao20 y449.length co20 : Value).ownBlock)) HO_3.out (fun k_ hk => hk.2)); clear HO_3; have HO_3 := n_; clear n_; obtain ⟨hy22_, hz22_⟩ := Kd.R_celln 0 HO_3.out (0 : Int) (by omega) (od_); (try simp only [Int.reduceToNat, Int.toNat_zero, Int.toNat_ofNat, Nat.reduceMul, Nat.zero_mul, Nat.zero_add] at hy22_ hz22_); (try rw [show ((0 : Int)).toNat = 0 from rfl] at hy22_); (try rw [show ((0 : Int)).toNat = 0 from rfl] at hz22_); have HP22 := Kd.R_putg HO_3.out (0 : Int) t452) | ((with_reducible refine gate_store (t := 3) (p := 23) rfl ?_); refine store_event (t := 3) (p := 23) (v := ?vo_w23) (w1 := (w21.setCell ⟨go16, (0 : Int).toNat, none⟩ (.int .i64 t452))) ?hg ?ho ?hn ?hr ?_; (case ho => rfl); (case hg => rfl); (case hn => rfl); (case hr => first | (go_simp; done) | (go_simp; rfl)); intro w23 hw; have hg : w21.grownBy w23 (some go16) := (by rw [hw]; exact HP22.2); have hp_ : Kd.R (Kd.int .i64) 3 w23 w.heap.size (fun k_ => some k_ ≠ (.slice Ao20 y449.length co20 : Value).ownBlock) (.slice (some ⟨go16, 0, none⟩) x3_1.length co16) y455 := (by rw [hw, Ny455.out]; exact HP22.1); clear HP22; replace HI0 := am_ (IsS68.grown y7_ hg (IsS68.own_ne HI0.out HO_3.out (by decide))); replace HO451 := am_ (Kd.R_after (v := (.slice (some ⟨go16, 0, none⟩) x3_1.length co16)) (v1 := (.slice (some ⟨go16, 0, none⟩) x3_1.length co16)) (ok := (fun _ => True)) (rq_ HO451.out) hg (.inl rfl)); replace HB := am_ ((by rw [hw]; exact below_set (HB.out) (Nat.le_trans HL.out GB16.out) : Below w0.heap.size w0 w23)); replace HK := am_ (KeepBut.trans y9_ (KeepBut.of_grown hg g) (Kd.R_base2 HO_3.out)); replace HO_3 := am_ (hp_); clear hg hw hp_))
      go_ret
      exact ⟨_, by first | rfl | (simp [errW_none, errW_some] <;> rfl) | (simp [*, errW_none, errW_some] <;> rfl), rq_ (Kd.R_mono HO_3.out (fun _ hk => trivial)), by repeat (first | (with_reducible first | exact HI0.out | apply IsS68.alloc | apply IsS68.drewN | apply IsS68.drew | apply IsS68.set_1 | apply IsS68.set_2) | exact HI0.out), by repeat (first | (with_reducible first | exact HB.out | apply below_alloc | apply pw_below_drewN | apply below_drew1 | refine below_set ?_ (IsS68.ge HI0.out)) | exact HB.out), by repeat (first | (with_reducible first | exact HK.out | apply KeepBut.set_ | apply keep_drewN | apply keep_drew | apply keep_alloc) | exact HK.out)⟩
     ·rw [if_neg c15] at H
      exact absurd H (by simp)
    ·replace c13 := Bool.eq_false_iff.mpr c13
     subst c13
     have H1 : (some (x3_1, t447, t448)) = some (r1, r2, r3) := by rw [if_neg (show ¬ (false = true) by decide)] at H; exact H
     clear H
     have H := H1
     clear H1
     simp only [Option.some.injEq, Prod.mk.injEq] at H
     obtain ⟨rfl, rfl, rfl⟩ := H
     go_wp2_with (first | ((with_reducible refine gl_ 77 rfl ?_); refine goesM_ (some 18) Try.func77 #[.pointer (some ⟨g, 0, none⟩), .int .i64 30] ?_; (with_reducible refine (spec_l1Cur_one.calls g s0_0 x1001_1 x1002_1 30 false t447 t448 w0 _ ?side1 ?side2 A12.out).mono ?_); (case side1 => repeat (first | (with_reducible first | exact HI0.out | apply IsS68.alloc | apply IsS68.drewN | apply IsS68.drew | apply IsS68.set_1 | apply IsS68.set_2) | exact HI0.out)); (case side2 => repeat (first | (with_reducible first | exact HB.out | apply below_alloc | apply pw_below_drewN | apply below_drew1 | refine below_set ?_ (IsS68.ge HI0.out)) | exact HB.out)); rintro e w24 ⟨rfl, hi, hb, hk⟩; refine ⟨_, rfl, ?_⟩; replace HO_3 := am_ (Kd.R_mono (Kd.R_keep (IsS68.apart (show IsS68 w0 _ g s0_0 x1001_1 x1002_1 from by repeat (first | (with_reducible first | exact HI0.out | apply IsS68.alloc | apply IsS68.drewN | apply IsS68.drew | apply IsS68.set_1 | apply IsS68.set_2) | exact HI0.out)) (rq_ HO_3.out) (by decide)) hk (fun _ h => h.2)) (fun _ h => h.1)); replace HK := am_ (KeepBut.trans y9_ hk (.inl rfl)); replace HB := am_ (hb); replace HI0 := am_ (hi); (try clear hb); (try clear hk); (try clear hi)))
     go_ret
     exact ⟨_, by first | rfl | (simp [errW_none, errW_some] <;> rfl) | (simp [*, errW_none, errW_some] <;> rfl), rq_ HO_3.out, by repeat (first | (with_reducible first | exact HI0.out | apply IsS68.alloc | apply IsS68.drewN | apply IsS68.drew | apply IsS68.set_1 | apply IsS68.set_2) | exact HI0.out), by repeat (first | (with_reducible first | exact HB.out | apply below_alloc | apply pw_below_drewN | apply below_drew1 | refine below_set ?_ (IsS68.ge HI0.out)) | exact HB.out), by repeat (first | (with_reducible first | exact HK.out | apply KeepBut.set_ | apply keep_drewN | apply keep_drew | apply keep_alloc) | exact HK.out)⟩
def spec_DrawTraceOf.f (k : Nat) (l0 : List Int) : Option ((List (S51)) × List Int) := (spec_l1Cur_program.f k l0 0 0).bind fun bt457 => ((spec_l1Cur_ctx.f k l0 bt457.2.1 bt457.2.2).bind fun bt462 => (some (bt457.1, bt462.1)))
set_option maxHeartbeats 8000000 in
set_option maxRecDepth 100000 in
theorem spec_DrawTraceOf.calls (k : Nat) (A0 : Option Addr) (c0 : Nat) (l0 : List Int) (r1 : List (S51)) (r2 : List Int) (w : World) (hr0 : Kd.C (Kd.int .u8) w A0 l0.length l0) (hc0 : l0.length ≤ c0) (h : spec_DrawTraceOf.f k l0 = some (r1, r2)) :
  Calls Try.prog 38 #[.slice A0 l0.length c0] w fun e w' => ∃ v0_ v1_ : Value, e = .returned (.tuple #[v0_, v1_]) ∧ Kd.R k51 51 w' w.heap.size (fun _ => True) v0_ r1 ∧ Kd.R (Kd.int .i64) 3 w' w.heap.size (fun _ => True) v1_ r2 ∧ Below w.heap.size w w' := by
 have hu68 := Try.underlying68
 have HR0 := am_ hr0
 have HC0 := am_ hc0
 clear hr0 hc0
 have HB := am_ (Below.refl w.heap.size w)
 have H : ((spec_l1Cur_program.f k l0 0 0).bind fun bt457 => ((spec_l1Cur_ctx.f k l0 bt457.2.1 bt457.2.2).bind fun bt462 => (some (bt457.1, bt462.1)))) = some (r1, r2) := h
 clear h
 replace H := Option.bind_eq_some_iff.mp H
 obtain ⟨⟨t457, t460, t461⟩, A20, H⟩ := H
 replace H : ((spec_l1Cur_ctx.f k l0 t460 t461).bind fun bt462 => (some (t457, bt462.1))) = some (r1, r2) := H
 have A2 := am_ A20
 clear A20
 replace H := Option.bind_eq_some_iff.mp H
 obtain ⟨⟨t462, t465, t466⟩, A30, H⟩ := H
 replace H : (some (t457, t462)) = some (r1, r2) := H
 have A3 := am_ A30
 clear A30
 simp only [Option.some.injEq, Prod.mk.injEq] at H
 obtain ⟨rfl, rfl⟩ := H
 go_enter Try.func38, Try.ntmps38
 go_wp2_with (first | ((with_reducible refine gate_dst (N := 7) rfl ?_); refine boxq_ (N := 7) (cs := #[.slice A0 l0.length c0, .int .i64 0, .int .u64 0]) (t := 68) ?_; intro gb456 hg w4 hbox hb; have HI456 := am_ ((show IsS68 w w4 gb456 l0 0 0 from ⟨_, _, hbox, y16_, HR0.out⟩)); replace HB := bs_ hb; clear hb hbox hg) | ((with_reducible refine gl_ 66 rfl ?_); refine goesM_ (some 9) Try.func66 #[.pointer (some ⟨gb456, 0, none⟩)] ?_; (with_reducible refine (spec_l1Cur_program.calls k gb456 l0 0 0 t457 t460 t461 w _ ?side1 ?side2 A2.out).mono ?_); (case side1 => repeat (first | (with_reducible first | exact HI456.out | apply IsS68.alloc | apply IsS68.drewN | apply IsS68.drew | apply IsS68.set_1 | apply IsS68.set_2) | exact HI456.out)); (case side2 => repeat (first | (with_reducible first | exact HB.out | apply below_alloc | apply pw_below_drewN | apply below_drew1 | refine below_set ?_ (IsS68.ge HI456.out)) | exact HB.out)); rintro e w5 ⟨v458, rfl, ho0, hi, hb, hk⟩; refine ⟨_, rfl, ?_⟩; have HO459 := am_ (Kd.R_lower ho0 (below_size (by repeat (first | (with_reducible first | exact HB.out | apply below_alloc | apply pw_below_drewN | apply below_drew1 | refine below_set ?_ (IsS68.ge HI456.out)) | exact HB.out)))); replace HB := am_ (hb); replace HI456 := am_ (hi); (try clear hb); (try clear hk); (try clear hi); (try clear ho0)) | ((with_reducible refine gl_ 67 rfl ?_); refine goesM_ (some 11) Try.func67 #[.pointer (some ⟨gb456, 0, none⟩)] ?_; (with_reducible refine (spec_l1Cur_ctx.calls k gb456 l0 t460 t461 t462 t465 t466 w _ ?side1 ?side2 A3.out).mono ?_); (case side1 => repeat (first | (with_reducible first | exact HI456.out | apply IsS68.alloc | apply IsS68.drewN | apply IsS68.drew | apply IsS68.set_1 | apply IsS68.set_2) | exact HI456.out)); (case side2 => repeat (first | (with_reducible first | exact HB.out | apply below_alloc | apply pw_below_drewN | apply below_drew1 | refine below_set ?_ (IsS68.ge HI456.out)) | exact HB.out)); rintro e w6 ⟨v463, rfl, ho0, hi, hb, hk⟩; refine ⟨_, rfl, ?_⟩; replace HO459 := am_ (Kd.R_mono (Kd.R_keep (IsS68.apart (show IsS68 w _ gb456 l0 t460 t461 from by repeat (first | (with_reducible first | exact HI456.out | apply IsS68.alloc | apply IsS68.drewN | apply IsS68.drew | apply IsS68.set_1 | apply IsS68.set_2) | exact HI456.out)) (rq_ HO459.out) (by decide)) hk (fun _ h => h.2)) (fun _ h => h.1)); have HO464 := am_ (Kd.R_lower ho0 (below_size (by repeat (first | (with_reducible first | exact HB.out | apply below_alloc | apply pw_below_drewN | apply below_drew1 | refine below_set ?_ (IsS68.ge HI456.out)) | exact HB.out)))); replace HB := am_ (hb); replace HI456 := am_ (hi); (try clear hb); (try clear hk); (try clear hi); (try clear ho0)))
 go_ret2
 exact ⟨_, _, by first | rfl | (simp [errW_none, errW_some] <;> rfl) | (simp [*, errW_none, errW_some] <;> rfl), rq_ HO459.out, rq_ HO464.out, by repeat (first | (with_reducible first | exact HB.out | apply below_alloc | apply pw_below_drewN | apply below_drew1 | refine below_set ?_ (IsS68.ge HI456.out)) | exact HB.out)⟩
def impl_isContext.np (x : Int) : Option Bool := (impl_in.f x 0 255).bind fun t => some (!t)
set_option maxHeartbeats 4000000 in
theorem impl_isContext.np_calls (x : Int) (r : Bool) (w : World) (h : impl_isContext.np x = some r) :
  Calls Try.prog 81 #[.int .i64 x] w fun e w' => e = .returned (.bool r) ∧ Drawn0 w w' := by
 obtain ⟨t, A70, H⟩ := Option.bind_eq_some_iff.mp h
 obtain rfl := Option.some.inj H
 have A7 := am_ A70
 clear A70 H h
 go_enter Try.func81, Try.ntmps81
 have eg := fun args w => enters_ (P := Try.prog) Try.func70 (by kernel_rfl) rfl args w
 go_wp2_with (go_at_call 70; refine (impl_in.calls x 0 255 t _ A7.out).mono ?_; rintro e w' ⟨rfl, ⟨nd, rfl⟩⟩)
 go_ret
 exact ⟨by first | rfl | (simp; done) | (simp [*]; done), by repeat (first | exact Drawn0.refl _ | apply Drawn0.step)⟩
def impl_isContext.idx : Nat → List Int → Int → Option Int
 | 0, _, _ => none
 | k + 1, l, i => if i < (l.length : Int) then (if 0 ≤ i then ((impl_isContext.np (rd l i)).bind fun t => (if t = true then some i else impl_isContext.idx k l (wrap64 (i + 1)))) else none) else some (-1)
set_option maxHeartbeats 8000000 in
set_option maxRecDepth 100000 in
theorem impl_isContext.idx_calls (k : Nat) (A0 : Option Addr) (c0 : Nat) (l0 : List Int) (r : Int) (w : World) (hr0 : Kd.C (Kd.int .i64) w A0 l0.length l0) (h : impl_isContext.idx k l0 0 = some r) :
  Calls Try.prog 91 #[.slice A0 l0.length c0, .func (.func 81) #[] #[]] w fun e w' => e = .returned (.int .i64 r) ∧ Drawn0 w w' := by
 have HR0 := am_ hr0
 clear hr0
 have H' := am_ h
 clear h
 go_enter Try.func91, Try.ntmps91
 go_wp2
 go_loopg [5, 8] k (fun kq v5 v8 w' => ∃ (x8 : Int), v8 = .int .i64 x8 ∧ Aside0 (impl_isContext.idx kq l0 x8 = some r) ∧ Aside0 (kq ≤ k) ∧ Drawn0 w w')
 case atStart => exact ⟨0, y14_, H', ⟨Nat.le_refl _⟩, by repeat (first | exact Drawn0.refl _ | apply Drawn0.step)⟩
 case round =>
  clear H'
  try clear p2
  obtain ⟨x8, rfl, HA, HK1, ⟨m1, rfl⟩⟩ := hrel
  cases gk with
  | zero => exact absurd HA.out (by simp [impl_isContext.idx])
  | succ k1 =>
   have H := HA.out
   clear HA
   simp only [impl_isContext.idx] at H
   by_cases c4 : x8 < (l0.length : Int)
   ·rw [if_pos c4] at H
    have c4b0 : decide (x8 < (l0.length : Int)) = true := decide_eq_true c4
    by_cases c5 : 0 ≤ x8
    ·rw [if_pos c5] at H
     have c5b0 : decide (0 ≤ x8) = true := decide_eq_true c5
     clear c5 c4
     replace H := Option.bind_eq_some_iff.mp H
     obtain ⟨t102, A70, H⟩ := H
     have A7 := am_ A70
     clear A70
     by_cases c8 : t102 = true
     ·subst c8
      have H1 : some x8 = some r := by rw [if_pos rfl] at H; exact H
      clear H
      obtain rfl := Option.some.inj H1
      clear H1
      have p101 : 0 ≤ (x8 : Int) := od_
      have q101 : x8 < (l0.length : Int) := od_
      obtain ⟨ad101, e101, hx101_0⟩ := Kd.at_int HR0.out x8 p101 q101
      cases e101
      replace p101 := eq_true p101
      replace q101 := eq_true q101
      have eg := fun args w => enters_ (P := Try.prog) Try.func81 (by kernel_rfl) rfl args w
      go_wp2_with (go_at_call 81; refine (impl_isContext.np_calls (rd l0 x8) true _ A7.out).mono ?_; rintro e w' ⟨rfl, ⟨nd, rfl⟩⟩)
      go_ret
      exact ⟨by first | rfl | (simp; done) | (simp [*]; done), by repeat (first | exact Drawn0.refl _ | apply Drawn0.step)⟩
     ·replace c8 := Bool.eq_false_iff.mpr c8
      subst c8
      have H1 : impl_isContext.idx k1 l0 (wrap64 (x8 + 1)) = some r := by rw [if_neg (show ¬ (false = true) by decide)] at H; exact H
      clear H
      have H' := am_ H1
      clear H1
      have p101 : 0 ≤ (x8 : Int) := od_
      have q101 : x8 < (l0.length : Int) := od_
      obtain ⟨ad101, e101, hx101_0⟩ := Kd.at_int HR0.out x8 p101 q101
      cases e101
      replace p101 := eq_true p101
      replace q101 := eq_true q101
      have eg := fun args w => enters_ (P := Try.prog) Try.func81 (by kernel_rfl) rfl args w
      go_wp2_with (go_at_call 81; refine (impl_isContext.np_calls (rd l0 x8) false _ A7.out).mono ?_; rintro e w' ⟨rfl, ⟨nd, rfl⟩⟩)
      go_roundg k1
      case measure => have := HK1.out; omega
      case rel => exact ⟨(wrap64 (x8 + 1)), y14_, H', ⟨by have := HK1.out; omega⟩, by repeat (first | exact Drawn0.refl _ | apply Drawn0.step)⟩
    ·rw [if_neg c5] at H
     exact absurd H (by simp)
   ·rw [if_neg c4] at H
    have c4b0 : decide (x8 < (l0.length : Int)) = false := decide_eq_false c4
    clear c4
    obtain rfl := Option.some.inj H
    go_wp2
    go_ret
    exact ⟨by first | rfl | (simp; done) | (simp [*]; done), by repeat (first | exact Drawn0.refl _ | apply Drawn0.step)⟩
def impl_isContext.any (k : Nat) (l : List Int) : Option Bool := (impl_isContext.idx k l 0).bind fun t => some (decide (t ≥ 0))
set_option maxHeartbeats 4000000 in
theorem impl_isContext.any_calls (k : Nat) (A0 : Option Addr) (c0 : Nat) (l0 : List Int) (r : Bool) (w : World) (hr0 : Kd.C (Kd.int .i64) w A0 l0.length l0) (h : impl_isContext.any k l0 = some r) :
  Calls Try.prog 80 #[.slice A0 l0.length c0, .func (.func 81) #[] #[]] w fun e w' => e = .returned (.bool r) ∧ Drawn0 w w' := by
 have HR0 := am_ hr0
 clear hr0
 obtain ⟨t, A70, H⟩ := Option.bind_eq_some_iff.mp h
 obtain rfl := Option.some.inj H
 have A7 := am_ A70
 clear A70 H h
 go_enter Try.func80, Try.ntmps80
 have eg := fun args w => enters_ (P := Try.prog) Try.func91 (by kernel_rfl) rfl args w
 go_wp2_with (go_at_call 91; refine (impl_isContext.idx_calls k A0 c0 l0 t _ HR0.out A7.out).mono ?_; rintro e w' ⟨rfl, ⟨nd, rfl⟩⟩)
 go_ret
 exact ⟨by first | rfl | (simp; done) | (simp [*]; done), by repeat (first | exact Drawn0.refl _ | apply Drawn0.step)⟩
def impl_isContext.f (k : Nat) (l0 : List Int) : Option Bool := if l0.length = 8 then (impl_isContext.any k l0).bind fun t => some (!t) else some false
set_option maxHeartbeats 4000000 in
theorem impl_isContext.calls (k : Nat) (A0 : Option Addr) (c0 : Nat) (l0 : List Int) (r : Bool) (w : World) (hr0 : Kd.C (Kd.int .i64) w A0 l0.length l0) (hc0 : l0.length ≤ c0) (h : impl_isContext.f k l0 = some r) :
  Calls Try.prog 68 #[.slice A0 l0.length c0] w fun e w' => e = .returned (.bool r) ∧ Drawn0 w w' := by
 have HR0 := am_ hr0
 clear hr0 hc0
 by_cases c8 : l0.length = 8
 ·unfold impl_isContext.f at h
  rw [if_pos c8] at h
  have c8b : ((l0.length : Int) == 8) = true := beq_iff_eq.mpr (by omega)
  clear c8
  obtain ⟨t, A70, H⟩ := Option.bind_eq_some_iff.mp h
  obtain rfl := Option.some.inj H
  have A7 := am_ A70
  clear A70 H h
  go_enter Try.func68, Try.ntmps68
  have eg := fun args w => enters_ (P := Try.prog) Try.func80 (by kernel_rfl) rfl args w
  go_wp2_with (go_at_call 80; refine (impl_isContext.any_calls k A0 c0 l0 t _ HR0.out A7.out).mono ?_; rintro e w' ⟨rfl, ⟨nd, rfl⟩⟩)
  go_ret
  exact ⟨by first | rfl | (simp; done) | (simp [*]; done), by repeat (first | exact Drawn0.refl _ | apply Drawn0.step)⟩
 ·unfold impl_isContext.f at h
  rw [if_neg c8] at h
  obtain rfl := Option.some.inj h
  have c8b : ((l0.length : Int) == 8) = false := beq_eq_false_iff_ne.mpr (by omega)
  clear c8 h
  go_enter Try.func68, Try.ntmps68
  go_wp2
  go_ret
  exact ⟨by first | rfl | (simp; done) | (simp [*]; done), by repeat (first | exact Drawn0.refl _ | apply Drawn0.step)⟩
end Go.Proofs.Ytcmhkgpalfljbaa.PPA
