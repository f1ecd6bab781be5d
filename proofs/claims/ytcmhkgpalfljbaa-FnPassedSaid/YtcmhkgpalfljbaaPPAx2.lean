import Derived.Test.YtcmhkgpalfljbaaPPAx0
import Derived.Test.YtcmhkgpalfljbaaPPAx1
namespace Go.Proofs.Ytcmhkgpalfljbaa.PPA
open Go.RowKit Go.Proofs.YtcmhkgpalfljbaaW.PrintWords Go.Proofs.YtcmhkgpalfljbaaW.PrintLast Go.Proofs.YtcmhkgpalfljbaaW.PrintMore
attribute [local go_sem] max2_int min2_int max_two min_two max_three min_three max_four min_four   -- for this text's walks alone
set_option linter.unusedVariables false
set_option linter.unusedSimpArgs false
mutual
def spec_l2Step.j0 : Nat → Bool → Bool → Bool → Int → Int → Int → Int → Int → Int → Option (Bool)
 | 0, _, _, _, _, _, _, _, _, _ => none
 | k + 1, x3, x4, x20, x103000, x103001, x103002, x103003, x103004, x103005 => if x20 = true then (some false) else (if x103000 = 1 then (if x3 = true then ((spec_l2Zero.f x103000 x103001 x103002 x103003 x103004 x103005 true true true false false).bind fun t107 => (some t107)) else (some false)) else (if x103000 = 2 then (if x3 = true then ((spec_l1In.f x103004 0 255).bind fun t108 => (if t108 = true then ((spec_l2Zero.f x103000 x103001 x103002 x103003 x103004 x103005 true true false true false).bind fun t109 => (some t109)) else (some false))) else (some false)) else (if x103000 = 3 then ((spec_l1In.f x103004 0 255).bind fun t110 => (if t110 = true then ((spec_l2Zero.f x103000 x103001 x103002 x103003 x103004 x103005 false true false true false).bind fun t111 => (some t111)) else (some false))) else (if x103000 = 4 then ((spec_l1In.f x103004 256 65535).bind fun t112 => (if t112 = true then ((spec_l2Zero.f x103000 x103001 x103002 x103003 x103004 x103005 false true false true false).bind fun t113 => (some t113)) else (some false))) else (if x103000 = 5 then ((spec_l1In.f x103004 0 7).bind fun t114 => (if t114 = true then ((spec_l2Zero.f x103000 x103001 x103002 x103003 x103004 x103005 false true true true false).bind fun t115 => (some t115)) else (some false))) else (if x103000 = 6 then (spec_l2Step.j1 k x4 x103000 (x103000 == 6) x103000 x103001 x103002 x103003 x103004 x103005) else (spec_l2Step.j1 k x4 x103000 (x103000 == 7) x103000 x103001 x103002 x103003 x103004 x103005)))))))
def spec_l2Step.j1 : Nat → Bool → Int → Bool → Int → Int → Int → Int → Int → Int → Option (Bool)
 | 0, _, _, _, _, _, _, _, _, _ => none
 | k + 1, x4, x22, x69, x103000, x103001, x103002, x103003, x103004, x103005 => if x69 = true then ((spec_l1In.f x103004 0 255).bind fun t116 => (if t116 = true then ((spec_l2Zero.f x103000 x103001 x103002 x103003 x103004 x103005 false true false true false).bind fun t117 => (some t117)) else (some false))) else (if x22 = 8 then (if x4 = true then ((spec_l2Zero.f x103000 x103001 x103002 x103003 x103004 x103005 false false false false true).bind fun t118 => (some t118)) else (some false)) else (if x22 = 9 then (spec_l2Step.j2 k x4 (x22 == 9) x103000 x103001 x103002 x103003 x103004 x103005) else (spec_l2Step.j2 k x4 (x22 == 10) x103000 x103001 x103002 x103003 x103004 x103005)))
def spec_l2Step.j2 : Nat → Bool → Bool → Int → Int → Int → Int → Int → Int → Option (Bool)
 | 0, _, _, _, _, _, _, _, _ => none
 | k + 1, x4, x86, x103000, x103001, x103002, x103003, x103004, x103005 => if x86 = true then (if x4 = true then ((spec_l2Zero.f x103000 x103001 x103002 x103003 x103004 x103005 false true true false true).bind fun t119 => (some t119)) else (some false)) else (if x103000 = 11 then ((spec_l2Zero.f x103000 x103001 x103002 x103003 x103004 x103005 false false false false false).bind fun t120 => (some t120)) else (some false))
end
def spec_l2Step.f (k : Nat) (a0_0 : Int) (a0_1 : Int) (a0_2 : Int) (a0_3 : Int) (a0_4 : Int) (a0_5 : Int) : Option (Bool) := (spec_l1In.f a0_1 1 10).bind fun t103 => ((spec_l1In.f a0_5 1 19).bind fun t104 => ((spec_l2Reg.f a0_2).bind fun t105 => (if t105 = true then ((spec_l2Reg.f a0_3).bind fun t106 => (spec_l2Step.j0 k t103 t104 (!t106) a0_0 a0_1 a0_2 a0_3 a0_4 a0_5)) else (spec_l2Step.j0 k t103 t104 true a0_0 a0_1 a0_2 a0_3 a0_4 a0_5))))
set_option maxHeartbeats 8000000 in
set_option maxRecDepth 100000 in
theorem spec_l2Step.calls (k : Nat) (a0_0 : Int) (a0_1 : Int) (a0_2 : Int) (a0_3 : Int) (a0_4 : Int) (a0_5 : Int) (r : Bool) (w : World) (h : spec_l2Step.f k a0_0 a0_1 a0_2 a0_3 a0_4 a0_5 = some r) :
  Calls Try.prog 71 #[.agg #[.int .i64 a0_0, .int .i64 a0_1, .int .i64 a0_2, .int .i64 a0_3, .int .i64 a0_4, .int .i64 a0_5]] w fun e w' => e = .returned (.bool r) ∧ Below w.heap.size w w' := by
 have hu51 := Try.underlying51
 have HB := am_ (Below.refl w.heap.size w)
 have H : ((spec_l1In.f a0_1 1 10).bind fun t103 => ((spec_l1In.f a0_5 1 19).bind fun t104 => ((spec_l2Reg.f a0_2).bind fun t105 => (if t105 = true then ((spec_l2Reg.f a0_3).bind fun t106 => (spec_l2Step.j0 k t103 t104 (!t106) a0_0 a0_1 a0_2 a0_3 a0_4 a0_5)) else (spec_l2Step.j0 k t103 t104 true a0_0 a0_1 a0_2 a0_3 a0_4 a0_5))))) = some r := h
 clear h
 replace H := Option.bind_eq_some_iff.mp H
 obtain ⟨t103, A20, H⟩ := H
 replace H : ((spec_l1In.f a0_5 1 19).bind fun t104 => ((spec_l2Reg.f a0_2).bind fun t105 => (if t105 = true then ((spec_l2Reg.f a0_3).bind fun t106 => (spec_l2Step.j0 k t103 t104 (!t106) a0_0 a0_1 a0_2 a0_3 a0_4 a0_5)) else (spec_l2Step.j0 k t103 t104 true a0_0 a0_1 a0_2 a0_3 a0_4 a0_5)))) = some r := H
 have A2 := am_ A20
 clear A20
 replace H := Option.bind_eq_some_iff.mp H
 obtain ⟨t104, A30, H⟩ := H
 replace H : ((spec_l2Reg.f a0_2).bind fun t105 => (if t105 = true then ((spec_l2Reg.f a0_3).bind fun t106 => (spec_l2Step.j0 k t103 t104 (!t106) a0_0 a0_1 a0_2 a0_3 a0_4 a0_5)) else (spec_l2Step.j0 k t103 t104 true a0_0 a0_1 a0_2 a0_3 a0_4 a0_5))) = some r := H
 have A3 := am_ A30
 clear A30
 have HC4 := am_ H
 clear H
 go_enter Try.func71, Try.ntmps71
 go_upto_region 3 with (first | ((with_reducible refine gate_dst (N := 1) rfl ?_); refine boxq_ (N := 1) (cs := #[.int .i64 a0_0, .int .i64 a0_1, .int .i64 a0_2, .int .i64 a0_3, .int .i64 a0_4, .int .i64 a0_5]) (t := 51) ?_; intro gb102 hg w5 hbox hb; have BK102 := am_ (hbox); have GW102 := gz_ hg; have GE102 := gz_ hg; replace HB := bs_ hb; clear hb hbox hg; have hcz6_0 := cq_ BK102.out 0 (.int .i64 a0_0); have hcz6_1 := cq_ BK102.out 1 (.int .i64 a0_1); have hcz6_2 := cq_ BK102.out 2 (.int .i64 a0_2); have hcz6_3 := cq_ BK102.out 3 (.int .i64 a0_3); have hcz6_4 := cq_ BK102.out 4 (.int .i64 a0_4); have hcz6_5 := cq_ BK102.out 5 (.int .i64 a0_5); have hfz6_0 := blk_frozen BK102.out 0; have hfz6_1 := blk_frozen BK102.out 1; have hfz6_2 := blk_frozen BK102.out 2; have hfz6_3 := blk_frozen BK102.out 3; have hfz6_4 := blk_frozen BK102.out 4; have hfz6_5 := blk_frozen BK102.out 5) | ((with_reducible refine gl_ 72 rfl ?_); refine goesM_ (some 7) Try.func72 #[.int .i64 a0_1, .int .i64 1, .int .i64 10] ?_; (with_reducible refine (spec_l1In.calls a0_1 1 10 t103 _ A2.out).mono ?_); rintro e w' ⟨rfl, ⟨nd, rfl⟩⟩; refine ⟨_, rfl, ?_⟩) | ((with_reducible refine gl_ 72 rfl ?_); refine goesM_ (some 10) Try.func72 #[.int .i64 a0_5, .int .i64 1, .int .i64 19] ?_; (with_reducible refine (spec_l1In.calls a0_5 1 19 t104 _ A3.out).mono ?_); rintro e w' ⟨rfl, ⟨nd, rfl⟩⟩; refine ⟨_, rfl, ?_⟩))
 (try simp only [Act.put, List.setIfInBounds_toArray, List.set_cons_zero, List.set_cons_succ])
 go_cut [20] (fun v20 wc => ∃ (kq : Nat) (x20_3 : Bool), v20 = .bool x20_3 ∧ Aside0 (spec_l2Step.j0 kq t103 t104 x20_3 a0_0 a0_1 a0_2 a0_3 a0_4 a0_5 = some r) ∧ Aside0 (kq ≤ k) ∧ Aside0 (wc.heap[gb102]? = some (.cells #[.int .i64 a0_0, .int .i64 a0_1, .int .i64 a0_2, .int .i64 a0_3, .int .i64 a0_4, .int .i64 a0_5] 51 (0, 0))) ∧ Aside0 (Below w.heap.size w wc))
 case first =>
  have H := HC4.out
  clear HC4
  replace H := Option.bind_eq_some_iff.mp H
  obtain ⟨t105, A70, H⟩ := H
  replace H : (if t105 = true then ((spec_l2Reg.f a0_3).bind fun t106 => (spec_l2Step.j0 k t103 t104 (!t106) a0_0 a0_1 a0_2 a0_3 a0_4 a0_5)) else (spec_l2Step.j0 k t103 t104 true a0_0 a0_1 a0_2 a0_3 a0_4 a0_5)) = some r := H
  have A7 := am_ A70
  clear A70
  by_cases c8 : t105 = true
  ·subst c8
   have H1 : ((spec_l2Reg.f a0_3).bind fun t106 => (spec_l2Step.j0 k t103 t104 (!t106) a0_0 a0_1 a0_2 a0_3 a0_4 a0_5)) = some r := by rw [if_pos rfl] at H; exact H
   clear H
   have H := H1
   clear H1
   replace H := Option.bind_eq_some_iff.mp H
   obtain ⟨t106, A90, H⟩ := H
   replace H : (spec_l2Step.j0 k t103 t104 (!t106) a0_0 a0_1 a0_2 a0_3 a0_4 a0_5) = some r := H
   have A9 := am_ A90
   clear A90
   have H' := am_ H
   clear H
   have hcz10_0 := cq_ BK102.out 0 (.int .i64 a0_0)
   have hcz10_1 := cq_ BK102.out 1 (.int .i64 a0_1)
   have hcz10_2 := cq_ BK102.out 2 (.int .i64 a0_2)
   have hcz10_3 := cq_ BK102.out 3 (.int .i64 a0_3)
   have hcz10_4 := cq_ BK102.out 4 (.int .i64 a0_4)
   have hcz10_5 := cq_ BK102.out 5 (.int .i64 a0_5)
   have hfz10_0 := blk_frozen BK102.out 0
   have hfz10_1 := blk_frozen BK102.out 1
   have hfz10_2 := blk_frozen BK102.out 2
   have hfz10_3 := blk_frozen BK102.out 3
   have hfz10_4 := blk_frozen BK102.out 4
   have hfz10_5 := blk_frozen BK102.out 5
   go_wp2_with (first | ((with_reducible refine gl_ 84 rfl ?_); refine goesM_ (some 13) Try.func84 #[.int .i64 a0_2] ?_; (with_reducible refine (spec_l2Reg.calls a0_2 true _ A7.out).mono ?_); rintro e w' ⟨rfl, ⟨nd, rfl⟩⟩; refine ⟨_, rfl, ?_⟩) | (go_at_call 84; (with_reducible refine (spec_l2Reg.calls a0_3 t106 _ A9.out).mono ?_); rintro e w' ⟨rfl, ⟨nd, rfl⟩⟩))
   go_meet
   case rel => exact ⟨_, (!t106), y14_, H', ⟨by first | omega | exact Nat.le_refl _⟩, ⟨bk_ BK102.out⟩, ⟨bq_⟩⟩
  ·replace c8 := Bool.eq_false_iff.mpr c8
   subst c8
   have H1 : (spec_l2Step.j0 k t103 t104 true a0_0 a0_1 a0_2 a0_3 a0_4 a0_5) = some r := by rw [if_neg (show ¬ (false = true) by decide)] at H; exact H
   clear H
   have H := H1
   clear H1
   have H' := am_ H
   clear H
   have hcz11_0 := cq_ BK102.out 0 (.int .i64 a0_0)
   have hcz11_1 := cq_ BK102.out 1 (.int .i64 a0_1)
   have hcz11_2 := cq_ BK102.out 2 (.int .i64 a0_2)
   have hcz11_3 := cq_ BK102.out 3 (.int .i64 a0_3)
   have hcz11_4 := cq_ BK102.out 4 (.int .i64 a0_4)
   have hcz11_5 := cq_ BK102.out 5 (.int .i64 a0_5)
   have hfz11_0 := blk_frozen BK102.out 0
   have hfz11_1 := blk_frozen BK102.out 1
   have hfz11_2 := blk_frozen BK102.out 2
   have hfz11_3 := blk_frozen BK102.out 3
   have hfz11_4 := blk_frozen BK102.out 4
   have hfz11_5 := blk_frozen BK102.out 5
   go_wp2_with (first | ((with_reducible refine gl_ 84 rfl ?_); refine goesM_ (some 13) Try.func84 #[.int .i64 a0_2] ?_; (with_reducible refine (spec_l2Reg.calls a0_2 false _ A7.out).mono ?_); rintro e w' ⟨rfl, ⟨nd, rfl⟩⟩; refine ⟨_, rfl, ?_⟩))
   go_meet
   case rel => exact ⟨_, (true), y14_, H', ⟨by first | omega | exact Nat.le_refl _⟩, ⟨bk_ BK102.out⟩, ⟨bq_⟩⟩
 case rest =>
  clear HC4
  try clear p2
  try clear c7
  try clear c8
  try clear hcz10_0
  try clear hcz10_1
  try clear hcz10_2
  try clear hcz10_3
  try clear hcz10_4
  try clear hcz10_5
  try clear hcz11_0
  try clear hcz11_1
  try clear hcz11_2
  try clear hcz11_3
  try clear hcz11_4
  try clear hcz11_5
  try clear hcz6_0
  try clear hcz6_1
  try clear hcz6_2
  try clear hcz6_3
  try clear hcz6_4
  try clear hcz6_5
  try clear hfz10_0
  try clear hfz10_1
  try clear hfz10_2
  try clear hfz10_3
  try clear hfz10_4
  try clear hfz10_5
  try clear hfz11_0
  try clear hfz11_1
  try clear hfz11_2
  try clear hfz11_3
  try clear hfz11_4
  try clear hfz11_5
  try clear hfz6_0
  try clear hfz6_1
  try clear hfz6_2
  try clear hfz6_3
  try clear hfz6_4
  try clear hfz6_5
  obtain ⟨kq, x20_3, rfl, HA, HJ3, BK102, HB⟩ := hcut
  cases kq with
  | zero => exact absurd HA.out (by simp [spec_l2Step.j0])
  | succ kj3 =>
   have H := HA.out
   clear HA
   simp only [spec_l2Step.j0] at H
   by_cases c12 : x20_3 = true
   ·subst c12
    have H1 : (some false) = some r := by rw [if_pos rfl] at H; exact H
    clear H
    have H := H1
    clear H1
    obtain rfl := Option.some.inj H
    go_wp2
    go_ret
    exact ⟨by first | rfl | (simp [errW_none, errW_some] <;> rfl) | (simp [*, errW_none, errW_some] <;> rfl), bq_⟩
   ·replace c12 := Bool.eq_false_iff.mpr c12
    subst c12
    have H1 : (if a0_0 = 1 then (if t103 = true then ((spec_l2Zero.f a0_0 a0_1 a0_2 a0_3 a0_4 a0_5 true true true false false).bind fun t107 => (some t107)) else (some false)) else (if a0_0 = 2 then (if t103 = true then ((spec_l1In.f a0_4 0 255).bind fun t108 => (if t108 = true then ((spec_l2Zero.f a0_0 a0_1 a0_2 a0_3 a0_4 a0_5 true true false true false).bind fun t109 => (some t109)) else (some false))) else (some false)) else (if a0_0 = 3 then ((spec_l1In.f a0_4 0 255).bind fun t110 => (if t110 = true then ((spec_l2Zero.f a0_0 a0_1 a0_2 a0_3 a0_4 a0_5 false true false true false).bind fun t111 => (some t111)) else (some false))) else (if a0_0 = 4 then ((spec_l1In.f a0_4 256 65535).bind fun t112 => (if t112 = true then ((spec_l2Zero.f a0_0 a0_1 a0_2 a0_3 a0_4 a0_5 false true false true false).bind fun t113 => (some t113)) else (some false))) else (if a0_0 = 5 then ((spec_l1In.f a0_4 0 7).bind fun t114 => (if t114 = true then ((spec_l2Zero.f a0_0 a0_1 a0_2 a0_3 a0_4 a0_5 false true true true false).bind fun t115 => (some t115)) else (some false))) else (if a0_0 = 6 then (spec_l2Step.j1 kj3 t104 a0_0 (a0_0 == 6) a0_0 a0_1 a0_2 a0_3 a0_4 a0_5) else (spec_l2Step.j1 kj3 t104 a0_0 (a0_0 == 7) a0_0 a0_1 a0_2 a0_3 a0_4 a0_5))))))) = some r := by rw [if_neg (show ¬ (false = true) by decide)] at H; exact H
    clear H
    have H := H1
    clear H1
    by_cases c13 : a0_0 = 1
    ·rw [if_pos c13] at H
     have c13b0 : (a0_0 == 1) = true := beq_iff_eq.mpr c13
     have c13b1 : (a0_0 != 1) = false := bne_eq_false_iff_eq.mpr c13
     clear c13
     by_cases c14 : t103 = true
     ·subst c14
      have H1 : ((spec_l2Zero.f a0_0 a0_1 a0_2 a0_3 a0_4 a0_5 true true true false false).bind fun t107 => (some t107)) = some r := by rw [if_pos rfl] at H; exact H
      clear H
      have H := H1
      clear H1
      replace H := Option.bind_eq_some_iff.mp H
      obtain ⟨t107, A150, H⟩ := H
      replace H : (some t107) = some r := H
      have A15 := am_ A150
      clear A150
      obtain rfl := Option.some.inj H
      have hcz16_0 := cq_ BK102.out 0 (.int .i64 a0_0)
      have hcz16_1 := cq_ BK102.out 1 (.int .i64 a0_1)
      have hcz16_2 := cq_ BK102.out 2 (.int .i64 a0_2)
      have hcz16_3 := cq_ BK102.out 3 (.int .i64 a0_3)
      have hcz16_4 := cq_ BK102.out 4 (.int .i64 a0_4)
      have hcz16_5 := cq_ BK102.out 5 (.int .i64 a0_5)
      have hfz16_0 := blk_frozen BK102.out 0
      have hfz16_1 := blk_frozen BK102.out 1
      have hfz16_2 := blk_frozen BK102.out 2
      have hfz16_3 := blk_frozen BK102.out 3
      have hfz16_4 := blk_frozen BK102.out 4
      have hfz16_5 := blk_frozen BK102.out 5
      go_wp2_with (first | (go_at_call 85; (with_reducible refine (spec_l2Zero.calls a0_0 a0_1 a0_2 a0_3 a0_4 a0_5 true true true false false t107 _ A15.out).mono ?_); rintro e w17 ⟨rfl, hb⟩; replace BK102 := bb_ BK102 hb; replace HB := bs_ hb; (try clear hb)))
      go_ret
      exact ⟨by first | rfl | (simp [errW_none, errW_some] <;> rfl) | (simp [*, errW_none, errW_some] <;> rfl), bq_⟩
     ·replace c14 := Bool.eq_false_iff.mpr c14
      subst c14
      have H1 : (some false) = some r := by rw [if_neg (show ¬ (false = true) by decide)] at H; exact H
      clear H
      have H := H1
      clear H1
      obtain rfl := Option.some.inj H
      have hcz18_0 := cq_ BK102.out 0 (.int .i64 a0_0)
      have hcz18_1 := cq_ BK102.out 1 (.int .i64 a0_1)
      have hcz18_2 := cq_ BK102.out 2 (.int .i64 a0_2)
      have hcz18_3 := cq_ BK102.out 3 (.int .i64 a0_3)
      have hcz18_4 := cq_ BK102.out 4 (.int .i64 a0_4)
      have hcz18_5 := cq_ BK102.out 5 (.int .i64 a0_5)
      have hfz18_0 := blk_frozen BK102.out 0
      have hfz18_1 := blk_frozen BK102.out 1
      have hfz18_2 := blk_frozen BK102.out 2
      have hfz18_3 := blk_frozen BK102.out 3
      have hfz18_4 := blk_frozen BK102.out 4
      have hfz18_5 := blk_frozen BK102.out 5
      go_wp2
      go_ret
      exact ⟨by first | rfl | (simp [errW_none, errW_some] <;> rfl) | (simp [*, errW_none, errW_some] <;> rfl), bq_⟩
    ·rw [if_neg c13] at H
     have c13b0 : (a0_0 == 1) = false := beq_eq_false_iff_ne.mpr c13
     have c13b1 : (a0_0 != 1) = true := bne_iff_ne.mpr c13
     by_cases c19 : a0_0 = 2
     ·rw [if_pos c19] at H
      have c19b0 : (a0_0 == 2) = true := beq_iff_eq.mpr c19
      have c19b1 : (a0_0 != 2) = false := bne_eq_false_iff_eq.mpr c19
      clear c19
      by_cases c20 : t103 = true
      ·subst c20
       have H1 : ((spec_l1In.f a0_4 0 255).bind fun t108 => (if t108 = true then ((spec_l2Zero.f a0_0 a0_1 a0_2 a0_3 a0_4 a0_5 true true false true false).bind fun t109 => (some t109)) else (some false))) = some r := by rw [if_pos rfl] at H; exact H
       clear H
       have H := H1
       clear H1
       replace H := Option.bind_eq_some_iff.mp H
       obtain ⟨t108, A210, H⟩ := H
       replace H : (if t108 = true then ((spec_l2Zero.f a0_0 a0_1 a0_2 a0_3 a0_4 a0_5 true true false true false).bind fun t109 => (some t109)) else (some false)) = some r := H
       have A21 := am_ A210
       clear A210
       by_cases c22 : t108 = true
       ·subst c22
        have H1 : ((spec_l2Zero.f a0_0 a0_1 a0_2 a0_3 a0_4 a0_5 true true false true false).bind fun t109 => (some t109)) = some r := by rw [if_pos rfl] at H; exact H
        clear H
        have H := H1
        clear H1
        replace H := Option.bind_eq_some_iff.mp H
        obtain ⟨t109, A230, H⟩ := H
        replace H : (some t109) = some r := H
        have A23 := am_ A230
        clear A230
        obtain rfl := Option.some.inj H
        have hcz24_0 := cq_ BK102.out 0 (.int .i64 a0_0)
        have hcz24_1 := cq_ BK102.out 1 (.int .i64 a0_1)
        have hcz24_2 := cq_ BK102.out 2 (.int .i64 a0_2)
        have hcz24_3 := cq_ BK102.out 3 (.int .i64 a0_3)
        have hcz24_4 := cq_ BK102.out 4 (.int .i64 a0_4)
        have hcz24_5 := cq_ BK102.out 5 (.int .i64 a0_5)
        have hfz24_0 := blk_frozen BK102.out 0
        have hfz24_1 := blk_frozen BK102.out 1
        have hfz24_2 := blk_frozen BK102.out 2
        have hfz24_3 := blk_frozen BK102.out 3
        have hfz24_4 := blk_frozen BK102.out 4
        have hfz24_5 := blk_frozen BK102.out 5
        go_wp2_with (first | (go_at_call 72; (with_reducible refine (spec_l1In.calls a0_4 0 255 true _ A21.out).mono ?_); rintro e w' ⟨rfl, ⟨nd, rfl⟩⟩) | (go_at_call 85; (with_reducible refine (spec_l2Zero.calls a0_0 a0_1 a0_2 a0_3 a0_4 a0_5 true true false true false t109 _ A23.out).mono ?_); rintro e w25 ⟨rfl, hb⟩; replace BK102 := bb_ BK102 hb; replace HB := bs_ hb; (try clear hb)))
        go_ret
        exact ⟨by first | rfl | (simp [errW_none, errW_some] <;> rfl) | (simp [*, errW_none, errW_some] <;> rfl), bq_⟩
       ·replace c22 := Bool.eq_false_iff.mpr c22
        subst c22
        have H1 : (some false) = some r := by rw [if_neg (show ¬ (false = true) by decide)] at H; exact H
        clear H
        have H := H1
        clear H1
        obtain rfl := Option.some.inj H
        have hcz26_0 := cq_ BK102.out 0 (.int .i64 a0_0)
        have hcz26_1 := cq_ BK102.out 1 (.int .i64 a0_1)
        have hcz26_2 := cq_ BK102.out 2 (.int .i64 a0_2)
        have hcz26_3 := cq_ BK102.out 3 (.int .i64 a0_3)
        have hcz26_4 := cq_ BK102.out 4 (.int .i64 a0_4)
        have hcz26_5 := cq_ BK102.out 5 (.int .i64 a0_5)
        have hfz26_0 := blk_frozen BK102.out 0
        have hfz26_1 := blk_frozen BK102.out 1
        have hfz26_2 := blk_frozen BK102.out 2
        have hfz26_3 := blk_frozen BK102.out 3
        have hfz26_4 := blk_frozen BK102.out 4
        have hfz26_5 := blk_frozen BK102.out 5
        go_wp2_with (first | (go_at_call 72; (with_reducible refine (spec_l1In.calls a0_4 0 255 false _ A21.out).mono ?_); rintro e w' ⟨rfl, ⟨nd, rfl⟩⟩))
        go_ret
        exact ⟨by first | rfl | (simp [errW_none, errW_some] <;> rfl) | (simp [*, errW_none, errW_some] <;> rfl), bq_⟩
      ·replace c20 := Bool.eq_false_iff.mpr c20
       subst c20
       have H1 : (some false) = some r := by rw [if_neg (show ¬ (false = true) by decide)] at H; exact H
       clear H
       have H := H1
       clear H1
       obtain rfl := Option.some.inj H
       have hcz27_0 := cq_ BK102.out 0 (.int .i64 a0_0)
       have hcz27_1 := cq_ BK102.out 1 (.int .i64 a0_1)
       have hcz27_2 := cq_ BK102.out 2 (.int .i64 a0_2)
       have hcz27_3 := cq_ BK102.out 3 (.int .i64 a0_3)
       have hcz27_4 := cq_ BK102.out 4 (.int .i64 a0_4)
       have hcz27_5 := cq_ BK102.out 5 (.int .i64 a0_5)
       have hfz27_0 := blk_frozen BK102.out 0
       have hfz27_1 := blk_frozen BK102.out 1
       have hfz27_2 := blk_frozen BK102.out 2
       have hfz27_3 := blk_frozen BK102.out 3
       have hfz27_4 := blk_frozen BK102.out 4
       have hfz27_5 := blk_frozen BK102.out 5
       go_wp2
       go_ret
       exact ⟨by first | rfl | (simp [errW_none, errW_some] <;> rfl) | (simp [*, errW_none, errW_some] <;> rfl), bq_⟩
     ·rw [if_neg c19] at H
      have c19b0 : (a0_0 == 2) = false := beq_eq_false_iff_ne.mpr c19
      have c19b1 : (a0_0 != 2) = true := bne_iff_ne.mpr c19
      by_cases c28 : a0_0 = 3
      ·rw [if_pos c28] at H
       have c28b0 : (a0_0 == 3) = true := beq_iff_eq.mpr c28
       have c28b1 : (a0_0 != 3) = false := bne_eq_false_iff_eq.mpr c28
       clear c28
       replace H := Option.bind_eq_some_iff.mp H
       obtain ⟨t110, A290, H⟩ := H
       replace H : (if t110 = true then ((spec_l2Zero.f a0_0 a0_1 a0_2 a0_3 a0_4 a0_5 false true false true false).bind fun t111 => (some t111)) else (some false)) = some r := H
       have A29 := am_ A290
       clear A290
       by_cases c30 : t110 = true
       ·subst c30
        have H1 : ((spec_l2Zero.f a0_0 a0_1 a0_2 a0_3 a0_4 a0_5 false true false true false).bind fun t111 => (some t111)) = some r := by rw [if_pos rfl] at H; exact H
        clear H
        have H := H1
        clear H1
        replace H := Option.bind_eq_some_iff.mp H
        obtain ⟨t111, A310, H⟩ := H
        replace H : (some t111) = some r := H
        have A31 := am_ A310
        clear A310
        obtain rfl := Option.some.inj H
        have hcz32_0 := cq_ BK102.out 0 (.int .i64 a0_0)
        have hcz32_1 := cq_ BK102.out 1 (.int .i64 a0_1)
        have hcz32_2 := cq_ BK102.out 2 (.int .i64 a0_2)
        have hcz32_3 := cq_ BK102.out 3 (.int .i64 a0_3)
        have hcz32_4 := cq_ BK102.out 4 (.int .i64 a0_4)
        have hcz32_5 := cq_ BK102.out 5 (.int .i64 a0_5)
        have hfz32_0 := blk_frozen BK102.out 0
        have hfz32_1 := blk_frozen BK102.out 1
        have hfz32_2 := blk_frozen BK102.out 2
        have hfz32_3 := blk_frozen BK102.out 3
        have hfz32_4 := blk_frozen BK102.out 4
        have hfz32_5 := blk_frozen BK102.out 5
        go_wp2_with (first | ((with_reducible refine gl_ 72 rfl ?_); refine goesM_ (some 46) Try.func72 #[.int .i64 a0_4, .int .i64 0, .int .i64 255] ?_; (with_reducible refine (spec_l1In.calls a0_4 0 255 true _ A29.out).mono ?_); rintro e w' ⟨rfl, ⟨nd, rfl⟩⟩; refine ⟨_, rfl, ?_⟩) | (go_at_call 85; (with_reducible refine (spec_l2Zero.calls a0_0 a0_1 a0_2 a0_3 a0_4 a0_5 false true false true false t111 _ A31.out).mono ?_); rintro e w33 ⟨rfl, hb⟩; replace BK102 := bb_ BK102 hb; replace HB := bs_ hb; (try clear hb)))
        go_ret
        exact ⟨by first | rfl | (simp [errW_none, errW_some] <;> rfl) | (simp [*, errW_none, errW_some] <;> rfl), bq_⟩
       ·replace c30 := Bool.eq_false_iff.mpr c30
        subst c30
        have H1 : (some false) = some r := by rw [if_neg (show ¬ (false = true) by decide)] at H; exact H
        clear H
        have H := H1
        clear H1
        obtain rfl := Option.some.inj H
        have hcz34_0 := cq_ BK102.out 0 (.int .i64 a0_0)
        have hcz34_1 := cq_ BK102.out 1 (.int .i64 a0_1)
        have hcz34_2 := cq_ BK102.out 2 (.int .i64 a0_2)
        have hcz34_3 := cq_ BK102.out 3 (.int .i64 a0_3)
        have hcz34_4 := cq_ BK102.out 4 (.int .i64 a0_4)
        have hcz34_5 := cq_ BK102.out 5 (.int .i64 a0_5)
        have hfz34_0 := blk_frozen BK102.out 0
        have hfz34_1 := blk_frozen BK102.out 1
        have hfz34_2 := blk_frozen BK102.out 2
        have hfz34_3 := blk_frozen BK102.out 3
        have hfz34_4 := blk_frozen BK102.out 4
        have hfz34_5 := blk_frozen BK102.out 5
        go_wp2_with (first | ((with_reducible refine gl_ 72 rfl ?_); refine goesM_ (some 46) Try.func72 #[.int .i64 a0_4, .int .i64 0, .int .i64 255] ?_; (with_reducible refine (spec_l1In.calls a0_4 0 255 false _ A29.out).mono ?_); rintro e w' ⟨rfl, ⟨nd, rfl⟩⟩; refine ⟨_, rfl, ?_⟩))
        go_ret
        exact ⟨by first | rfl | (simp [errW_none, errW_some] <;> rfl) | (simp [*, errW_none, errW_some] <;> rfl), bq_⟩
      ·rw [if_neg c28] at H
       have c28b0 : (a0_0 == 3) = false := beq_eq_false_iff_ne.mpr c28
       have c28b1 : (a0_0 != 3) = true := bne_iff_ne.mpr c28
       by_cases c35 : a0_0 = 4
       ·rw [if_pos c35] at H
        have c35b0 : (a0_0 == 4) = true := beq_iff_eq.mpr c35
        have c35b1 : (a0_0 != 4) = false := bne_eq_false_iff_eq.mpr c35
        clear c35
        replace H := Option.bind_eq_some_iff.mp H
        obtain ⟨t112, A360, H⟩ := H
        replace H : (if t112 = true then ((spec_l2Zero.f a0_0 a0_1 a0_2 a0_3 a0_4 a0_5 false true false true false).bind fun t113 => (some t113)) else (some false)) = some r := H
        have A36 := am_ A360
        clear A360
        by_cases c37 : t112 = true
        ·subst c37
         have H1 : ((spec_l2Zero.f a0_0 a0_1 a0_2 a0_3 a0_4 a0_5 false true false true false).bind fun t113 => (some t113)) = some r := by rw [if_pos rfl] at H; exact H
         clear H
         have H := H1
         clear H1
         replace H := Option.bind_eq_some_iff.mp H
         obtain ⟨t113, A380, H⟩ := H
         replace H : (some t113) = some r := H
         have A38 := am_ A380
         clear A380
         obtain rfl := Option.some.inj H
         have hcz39_0 := cq_ BK102.out 0 (.int .i64 a0_0)
         have hcz39_1 := cq_ BK102.out 1 (.int .i64 a0_1)
         have hcz39_2 := cq_ BK102.out 2 (.int .i64 a0_2)
         have hcz39_3 := cq_ BK102.out 3 (.int .i64 a0_3)
         have hcz39_4 := cq_ BK102.out 4 (.int .i64 a0_4)
         have hcz39_5 := cq_ BK102.out 5 (.int .i64 a0_5)
         have hfz39_0 := blk_frozen BK102.out 0
         have hfz39_1 := blk_frozen BK102.out 1
         have hfz39_2 := blk_frozen BK102.out 2
         have hfz39_3 := blk_frozen BK102.out 3
         have hfz39_4 := blk_frozen BK102.out 4
         have hfz39_5 := blk_frozen BK102.out 5
         go_wp2_with (first | ((with_reducible refine gl_ 72 rfl ?_); refine goesM_ (some 55) Try.func72 #[.int .i64 a0_4, .int .i64 256, .int .i64 65535] ?_; (with_reducible refine (spec_l1In.calls a0_4 256 65535 true _ A36.out).mono ?_); rintro e w' ⟨rfl, ⟨nd, rfl⟩⟩; refine ⟨_, rfl, ?_⟩) | (go_at_call 85; (with_reducible refine (spec_l2Zero.calls a0_0 a0_1 a0_2 a0_3 a0_4 a0_5 false true false true false t113 _ A38.out).mono ?_); rintro e w40 ⟨rfl, hb⟩; replace BK102 := bb_ BK102 hb; replace HB := bs_ hb; (try clear hb)))
         go_ret
         exact ⟨by first | rfl | (simp [errW_none, errW_some] <;> rfl) | (simp [*, errW_none, errW_some] <;> rfl), bq_⟩
        ·replace c37 := Bool.eq_false_iff.mpr c37
         subst c37
         have H1 : (some false) = some r := by rw [if_neg (show ¬ (false = true) by decide)] at H; exact H
         clear H
         have H := H1
         clear H1
         obtain rfl := Option.some.inj H
         have hcz41_0 := cq_ BK102.out 0 (.int .i64 a0_0)
         have hcz41_1 := cq_ BK102.out 1 (.int .i64 a0_1)
         have hcz41_2 := cq_ BK102.out 2 (.int .i64 a0_2)
         have hcz41_3 := cq_ BK102.out 3 (.int .i64 a0_3)
         have hcz41_4 := cq_ BK102.out 4 (.int .i64 a0_4)
         have hcz41_5 := cq_ BK102.out 5 (.int .i64 a0_5)
         have hfz41_0 := blk_frozen BK102.out 0
         have hfz41_1 := blk_frozen BK102.out 1
         have hfz41_2 := blk_frozen BK102.out 2
         have hfz41_3 := blk_frozen BK102.out 3
         have hfz41_4 := blk_frozen BK102.out 4
         have hfz41_5 := blk_frozen BK102.out 5
         go_wp2_with (first | ((with_reducible refine gl_ 72 rfl ?_); refine goesM_ (some 55) Try.func72 #[.int .i64 a0_4, .int .i64 256, .int .i64 65535] ?_; (with_reducible refine (spec_l1In.calls a0_4 256 65535 false _ A36.out).mono ?_); rintro e w' ⟨rfl, ⟨nd, rfl⟩⟩; refine ⟨_, rfl, ?_⟩))
         go_ret
         exact ⟨by first | rfl | (simp [errW_none, errW_some] <;> rfl) | (simp [*, errW_none, errW_some] <;> rfl), bq_⟩
       ·rw [if_neg c35] at H
        have c35b0 : (a0_0 == 4) = false := beq_eq_false_iff_ne.mpr c35
        have c35b1 : (a0_0 != 4) = true := bne_iff_ne.mpr c35
        by_cases c42 : a0_0 = 5
        ·rw [if_pos c42] at H
         have c42b0 : (a0_0 == 5) = true := beq_iff_eq.mpr c42
         have c42b1 : (a0_0 != 5) = false := bne_eq_false_iff_eq.mpr c42
         clear c42
         replace H := Option.bind_eq_some_iff.mp H
         obtain ⟨t114, A430, H⟩ := H
         replace H : (if t114 = true then ((spec_l2Zero.f a0_0 a0_1 a0_2 a0_3 a0_4 a0_5 false true true true false).bind fun t115 => (some t115)) else (some false)) = some r := H
         have A43 := am_ A430
         clear A430
         by_cases c44 : t114 = true
         ·subst c44
          have H1 : ((spec_l2Zero.f a0_0 a0_1 a0_2 a0_3 a0_4 a0_5 false true true true false).bind fun t115 => (some t115)) = some r := by rw [if_pos rfl] at H; exact H
          clear H
          have H := H1
          clear H1
          replace H := Option.bind_eq_some_iff.mp H
          obtain ⟨t115, A450, H⟩ := H
          replace H : (some t115) = some r := H
          have A45 := am_ A450
          clear A450
          obtain rfl := Option.some.inj H
          have hcz46_0 := cq_ BK102.out 0 (.int .i64 a0_0)
          have hcz46_1 := cq_ BK102.out 1 (.int .i64 a0_1)
          have hcz46_2 := cq_ BK102.out 2 (.int .i64 a0_2)
          have hcz46_3 := cq_ BK102.out 3 (.int .i64 a0_3)
          have hcz46_4 := cq_ BK102.out 4 (.int .i64 a0_4)
          have hcz46_5 := cq_ BK102.out 5 (.int .i64 a0_5)
          have hfz46_0 := blk_frozen BK102.out 0
          have hfz46_1 := blk_frozen BK102.out 1
          have hfz46_2 := blk_frozen BK102.out 2
          have hfz46_3 := blk_frozen BK102.out 3
          have hfz46_4 := blk_frozen BK102.out 4
          have hfz46_5 := blk_frozen BK102.out 5
          go_wp2_with (first | ((with_reducible refine gl_ 72 rfl ?_); refine goesM_ (some 64) Try.func72 #[.int .i64 a0_4, .int .i64 0, .int .i64 7] ?_; (with_reducible refine (spec_l1In.calls a0_4 0 7 true _ A43.out).mono ?_); rintro e w' ⟨rfl, ⟨nd, rfl⟩⟩; refine ⟨_, rfl, ?_⟩) | (go_at_call 85; (with_reducible refine (spec_l2Zero.calls a0_0 a0_1 a0_2 a0_3 a0_4 a0_5 false true true true false t115 _ A45.out).mono ?_); rintro e w47 ⟨rfl, hb⟩; replace BK102 := bb_ BK102 hb; replace HB := bs_ hb; (try clear hb)))
          go_ret
          exact ⟨by first | rfl | (simp [errW_none, errW_some] <;> rfl) | (simp [*, errW_none, errW_some] <;> rfl), bq_⟩
         ·replace c44 := Bool.eq_false_iff.mpr c44
          subst c44
          have H1 : (some false) = some r := by rw [if_neg (show ¬ (false = true) by decide)] at H; exact H
          clear H
          have H := H1
          clear H1
          obtain rfl := Option.some.inj H
          have hcz48_0 := cq_ BK102.out 0 (.int .i64 a0_0)
          have hcz48_1 := cq_ BK102.out 1 (.int .i64 a0_1)
          have hcz48_2 := cq_ BK102.out 2 (.int .i64 a0_2)
          have hcz48_3 := cq_ BK102.out 3 (.int .i64 a0_3)
          have hcz48_4 := cq_ BK102.out 4 (.int .i64 a0_4)
          have hcz48_5 := cq_ BK102.out 5 (.int .i64 a0_5)
          have hfz48_0 := blk_frozen BK102.out 0
          have hfz48_1 := blk_frozen BK102.out 1
          have hfz48_2 := blk_frozen BK102.out 2
          have hfz48_3 := blk_frozen BK102.out 3
          have hfz48_4 := blk_frozen BK102.out 4
          have hfz48_5 := blk_frozen BK102.out 5
          go_wp2_with (first | ((with_reducible refine gl_ 72 rfl ?_); refine goesM_ (some 64) Try.func72 #[.int .i64 a0_4, .int .i64 0, .int .i64 7] ?_; (with_reducible refine (spec_l1In.calls a0_4 0 7 false _ A43.out).mono ?_); rintro e w' ⟨rfl, ⟨nd, rfl⟩⟩; refine ⟨_, rfl, ?_⟩))
          go_ret
          exact ⟨by first | rfl | (simp [errW_none, errW_some] <;> rfl) | (simp [*, errW_none, errW_some] <;> rfl), bq_⟩
        ·rw [if_neg c42] at H
         have c42b0 : (a0_0 == 5) = false := beq_eq_false_iff_ne.mpr c42
         have c42b1 : (a0_0 != 5) = true := bne_iff_ne.mpr c42
         have HC49 := am_ H
         clear H
         have hcz50_0 := cq_ BK102.out 0 (.int .i64 a0_0)
         have hcz50_1 := cq_ BK102.out 1 (.int .i64 a0_1)
         have hcz50_2 := cq_ BK102.out 2 (.int .i64 a0_2)
         have hcz50_3 := cq_ BK102.out 3 (.int .i64 a0_3)
         have hcz50_4 := cq_ BK102.out 4 (.int .i64 a0_4)
         have hcz50_5 := cq_ BK102.out 5 (.int .i64 a0_5)
         have hfz50_0 := blk_frozen BK102.out 0
         have hfz50_1 := blk_frozen BK102.out 1
         have hfz50_2 := blk_frozen BK102.out 2
         have hfz50_3 := blk_frozen BK102.out 3
         have hfz50_4 := blk_frozen BK102.out 4
         have hfz50_5 := blk_frozen BK102.out 5
         go_upto_if 69 with (fail)
         go_cut [69] (fun v69 wc => ∃ (kq : Nat) (x69_48 : Bool), v69 = .bool x69_48 ∧ Aside0 (spec_l2Step.j1 kq t104 a0_0 x69_48 a0_0 a0_1 a0_2 a0_3 a0_4 a0_5 = some r) ∧ Aside0 (kq ≤ kj3) ∧ Aside0 (wc.heap[gb102]? = some (.cells #[.int .i64 a0_0, .int .i64 a0_1, .int .i64 a0_2, .int .i64 a0_3, .int .i64 a0_4, .int .i64 a0_5] 51 (0, 0))) ∧ Aside0 (Below w.heap.size w wc))
         case first =>
          have H := HC49.out
          clear HC49
          by_cases c51 : a0_0 = 6
          ·rw [if_pos c51] at H
           have c51b0 : (a0_0 == 6) = true := beq_iff_eq.mpr c51
           have c51b1 : (a0_0 != 6) = false := bne_eq_false_iff_eq.mpr c51
           clear c51
           (first | rw [c51b0] | (simp only [i64_w, i32_w]; rw [c51b0]) | skip)
           have H' := am_ H
           clear H
           go_wp2
           go_meet
           case rel => exact ⟨_, ((a0_0 == 6)), y14_, H', ⟨by have := HJ3.out; first | omega | exact Nat.le_refl _⟩, ⟨bk_ BK102.out⟩, ⟨bq_⟩⟩
          ·rw [if_neg c51] at H
           have c51b0 : (a0_0 == 6) = false := beq_eq_false_iff_ne.mpr c51
           have c51b1 : (a0_0 != 6) = true := bne_iff_ne.mpr c51
           (first | rw [c51b0] | (simp only [i64_w, i32_w]; rw [c51b0]) | skip)
           have H' := am_ H
           clear H
           go_wp2
           go_meet
           case rel => exact ⟨_, ((a0_0 == 7)), y14_, H', ⟨by have := HJ3.out; first | omega | exact Nat.le_refl _⟩, ⟨bk_ BK102.out⟩, ⟨bq_⟩⟩
         case rest =>
          clear HC49
          try clear c1
          try clear c2
          try clear p2
          try clear c3
          try clear c4
          try clear c5
          try clear c7
          try clear c8
          try clear c12
          try clear c13
          try clear c13b0
          try clear c13b1
          try clear c14
          try clear c19
          try clear c19b0
          try clear c19b1
          try clear c20
          try clear c22
          try clear c28
          try clear c28b0
          try clear c28b1
          try clear c30
          try clear c35
          try clear c35b0
          try clear c35b1
          try clear c37
          try clear c42
          try clear c42b0
          try clear c42b1
          try clear c44
          try clear c51
          try clear c51b0
          try clear c51b1
          try clear hcz10_0
          try clear hcz10_1
          try clear hcz10_2
          try clear hcz10_3
          try clear hcz10_4
          try clear hcz10_5
          try clear hcz11_0
          try clear hcz11_1
          try clear hcz11_2
          try clear hcz11_3
          try clear hcz11_4
          try clear hcz11_5
          try clear hcz16_0
          try clear hcz16_1
          try clear hcz16_2
          try clear hcz16_3
          try clear hcz16_4
          try clear hcz16_5
          try clear hcz18_0
          try clear hcz18_1
          try clear hcz18_2
          try clear hcz18_3
          try clear hcz18_4
          try clear hcz18_5
          try clear hcz24_0
          try clear hcz24_1
          try clear hcz24_2
          try clear hcz24_3
          try clear hcz24_4
          try clear hcz24_5
          try clear hcz26_0
          try clear hcz26_1
          try clear hcz26_2
          try clear hcz26_3
          try clear hcz26_4
          try clear hcz26_5
          try clear hcz27_0
          try clear hcz27_1
          try clear hcz27_2
          try clear hcz27_3
          try clear hcz27_4
          try clear hcz27_5
          try clear hcz32_0
          try clear hcz32_1
          try clear hcz32_2
          try clear hcz32_3
          try clear hcz32_4
          try clear hcz32_5
          try clear hcz34_0
          try clear hcz34_1
          try clear hcz34_2
          try clear hcz34_3
          try clear hcz34_4
          try clear hcz34_5
          try clear hcz39_0
          try clear hcz39_1
          try clear hcz39_2
          try clear hcz39_3
          try clear hcz39_4
          try clear hcz39_5
          try clear hcz41_0
          try clear hcz41_1
          try clear hcz41_2
          try clear hcz41_3
          try clear hcz41_4
          try clear hcz41_5
          try clear hcz46_0
          try clear hcz46_1
          try clear hcz46_2
          try clear hcz46_3
          try clear hcz46_4
          try clear hcz46_5
          try clear hcz48_0
          try clear hcz48_1
          try clear hcz48_2
          try clear hcz48_3
          try clear hcz48_4
          try clear hcz48_5
          try clear hcz50_0
          try clear hcz50_1
          try clear hcz50_2
          try clear hcz50_3
          try clear hcz50_4
          try clear hcz50_5
          try clear hcz6_0
          try clear hcz6_1
          try clear hcz6_2
          try clear hcz6_3
          try clear hcz6_4
          try clear hcz6_5
          try clear hfz10_0
          try clear hfz10_1
          try clear hfz10_2
          try clear hfz10_3
          try clear hfz10_4
          try clear hfz10_5
          try clear hfz11_0
          try clear hfz11_1
          try clear hfz11_2
          try clear hfz11_3
          try clear hfz11_4
          try clear hfz11_5
          try clear hfz16_0
          try clear hfz16_1
          try clear hfz16_2
          try clear hfz16_3
          try clear hfz16_4
          try clear hfz16_5
          try clear hfz18_0
          try clear hfz18_1
          try clear hfz18_2
          try clear hfz18_3
          try clear hfz18_4
          try clear hfz18_5
          try clear hfz24_0
          try clear hfz24_1
          try clear hfz24_2
          try clear hfz24_3
          try clear hfz24_4
          try clear hfz24_5
          try clear hfz26_0
          try clear hfz26_1
          try clear hfz26_2
          try clear hfz26_3
          try clear hfz26_4
          try clear hfz26_5
          try clear hfz27_0
          try clear hfz27_1
          try clear hfz27_2
          try clear hfz27_3
          try clear hfz27_4
          try clear hfz27_5
          try clear hfz32_0
          try clear hfz32_1
          try clear hfz32_2
          try clear hfz32_3
          try clear hfz32_4
          try clear hfz32_5
          try clear hfz34_0
          try clear hfz34_1
          try clear hfz34_2
          try clear hfz34_3
          try clear hfz34_4
          try clear hfz34_5
          try clear hfz39_0
          try clear hfz39_1
          try clear hfz39_2
          try clear hfz39_3
          try clear hfz39_4
          try clear hfz39_5
          try clear hfz41_0
          try clear hfz41_1
          try clear hfz41_2
          try clear hfz41_3
          try clear hfz41_4
          try clear hfz41_5
          try clear hfz46_0
          try clear hfz46_1
          try clear hfz46_2
          try clear hfz46_3
          try clear hfz46_4
          try clear hfz46_5
          try clear hfz48_0
          try clear hfz48_1
          try clear hfz48_2
          try clear hfz48_3
          try clear hfz48_4
          try clear hfz48_5
          try clear hfz50_0
          try clear hfz50_1
          try clear hfz50_2
          try clear hfz50_3
          try clear hfz50_4
          try clear hfz50_5
          try clear hfz6_0
          try clear hfz6_1
          try clear hfz6_2
          try clear hfz6_3
          try clear hfz6_4
          try clear hfz6_5
          try clear p2
          obtain ⟨kq, x69_48, rfl, HA, HJ48, BK102, HB⟩ := hcut
          cases kq with
          | zero => exact absurd HA.out (by simp [spec_l2Step.j1])
          | succ kj48 =>
           have H := HA.out
           clear HA
           simp only [spec_l2Step.j1] at H
           by_cases c52 : x69_48 = true
           ·subst c52
            have H1 : ((spec_l1In.f a0_4 0 255).bind fun t116 => (if t116 = true then ((spec_l2Zero.f a0_0 a0_1 a0_2 a0_3 a0_4 a0_5 false true false true false).bind fun t117 => (some t117)) else (some false))) = some r := by rw [if_pos rfl] at H; exact H
            clear H
            have H := H1
            clear H1
            replace H := Option.bind_eq_some_iff.mp H
            obtain ⟨t116, A530, H⟩ := H
            replace H : (if t116 = true then ((spec_l2Zero.f a0_0 a0_1 a0_2 a0_3 a0_4 a0_5 false true false true false).bind fun t117 => (some t117)) else (some false)) = some r := H
            have A53 := am_ A530
            clear A530
            by_cases c54 : t116 = true
            ·subst c54
             have H1 : ((spec_l2Zero.f a0_0 a0_1 a0_2 a0_3 a0_4 a0_5 false true false true false).bind fun t117 => (some t117)) = some r := by rw [if_pos rfl] at H; exact H
             clear H
             have H := H1
             clear H1
             replace H := Option.bind_eq_some_iff.mp H
             obtain ⟨t117, A550, H⟩ := H
             replace H : (some t117) = some r := H
             have A55 := am_ A550
             clear A550
             obtain rfl := Option.some.inj H
             have hcz56_0 := cq_ BK102.out 0 (.int .i64 a0_0)
             have hcz56_1 := cq_ BK102.out 1 (.int .i64 a0_1)
             have hcz56_2 := cq_ BK102.out 2 (.int .i64 a0_2)
             have hcz56_3 := cq_ BK102.out 3 (.int .i64 a0_3)
             have hcz56_4 := cq_ BK102.out 4 (.int .i64 a0_4)
             have hcz56_5 := cq_ BK102.out 5 (.int .i64 a0_5)
             have hfz56_0 := blk_frozen BK102.out 0
             have hfz56_1 := blk_frozen BK102.out 1
             have hfz56_2 := blk_frozen BK102.out 2
             have hfz56_3 := blk_frozen BK102.out 3
             have hfz56_4 := blk_frozen BK102.out 4
             have hfz56_5 := blk_frozen BK102.out 5
             go_wp2_with (first | ((with_reducible refine gl_ 72 rfl ?_); refine goesM_ (some 74) Try.func72 #[.int .i64 a0_4, .int .i64 0, .int .i64 255] ?_; (with_reducible refine (spec_l1In.calls a0_4 0 255 true _ A53.out).mono ?_); rintro e w' ⟨rfl, ⟨nd, rfl⟩⟩; refine ⟨_, rfl, ?_⟩) | (go_at_call 85; (with_reducible refine (spec_l2Zero.calls a0_0 a0_1 a0_2 a0_3 a0_4 a0_5 false true false true false t117 _ A55.out).mono ?_); rintro e w57 ⟨rfl, hb⟩; replace BK102 := bb_ BK102 hb; replace HB := bs_ hb; (try clear hb)))
             go_ret
             exact ⟨by first | rfl | (simp [errW_none, errW_some] <;> rfl) | (simp [*, errW_none, errW_some] <;> rfl), bq_⟩
            ·replace c54 := Bool.eq_false_iff.mpr c54
             subst c54
             have H1 : (some false) = some r := by rw [if_neg (show ¬ (false = true) by decide)] at H; exact H
             clear H
             have H := H1
             clear H1
             obtain rfl := Option.some.inj H
             have hcz58_0 := cq_ BK102.out 0 (.int .i64 a0_0)
             have hcz58_1 := cq_ BK102.out 1 (.int .i64 a0_1)
             have hcz58_2 := cq_ BK102.out 2 (.int .i64 a0_2)
             have hcz58_3 := cq_ BK102.out 3 (.int .i64 a0_3)
             have hcz58_4 := cq_ BK102.out 4 (.int .i64 a0_4)
             have hcz58_5 := cq_ BK102.out 5 (.int .i64 a0_5)
             have hfz58_0 := blk_frozen BK102.out 0
             have hfz58_1 := blk_frozen BK102.out 1
             have hfz58_2 := blk_frozen BK102.out 2
             have hfz58_3 := blk_frozen BK102.out 3
             have hfz58_4 := blk_frozen BK102.out 4
             have hfz58_5 := blk_frozen BK102.out 5
             go_wp2_with (first | ((with_reducible refine gl_ 72 rfl ?_); refine goesM_ (some 74) Try.func72 #[.int .i64 a0_4, .int .i64 0, .int .i64 255] ?_; (with_reducible refine (spec_l1In.calls a0_4 0 255 false _ A53.out).mono ?_); rintro e w' ⟨rfl, ⟨nd, rfl⟩⟩; refine ⟨_, rfl, ?_⟩))
             go_ret
             exact ⟨by first | rfl | (simp [errW_none, errW_some] <;> rfl) | (simp [*, errW_none, errW_some] <;> rfl), bq_⟩
           ·replace c52 := Bool.eq_false_iff.mpr c52
            subst c52
            have H1 : (if a0_0 = 8 then (if t104 = true then ((spec_l2Zero.f a0_0 a0_1 a0_2 a0_3 a0_4 a0_5 false false false false true).bind fun t118 => (some t118)) else (some false)) else (if a0_0 = 9 then (spec_l2Step.j2 kj48 t104 (a0_0 == 9) a0_0 a0_1 a0_2 a0_3 a0_4 a0_5) else (spec_l2Step.j2 kj48 t104 (a0_0 == 10) a0_0 a0_1 a0_2 a0_3 a0_4 a0_5))) = some r := by rw [if_neg (show ¬ (false = true) by decide)] at H; exact H
            clear H
            have H := H1
            clear H1
            by_cases c59 : a0_0 = 8
            ·rw [if_pos c59] at H
             have c59b0 : (a0_0 == 8) = true := beq_iff_eq.mpr c59
             have c59b1 : (a0_0 != 8) = false := bne_eq_false_iff_eq.mpr c59
             clear c59
             by_cases c60 : t104 = true
             ·subst c60
              have H1 : ((spec_l2Zero.f a0_0 a0_1 a0_2 a0_3 a0_4 a0_5 false false false false true).bind fun t118 => (some t118)) = some r := by rw [if_pos rfl] at H; exact H
              clear H
              have H := H1
              clear H1
              replace H := Option.bind_eq_some_iff.mp H
              obtain ⟨t118, A610, H⟩ := H
              replace H : (some t118) = some r := H
              have A61 := am_ A610
              clear A610
              obtain rfl := Option.some.inj H
              have hcz62_0 := cq_ BK102.out 0 (.int .i64 a0_0)
              have hcz62_1 := cq_ BK102.out 1 (.int .i64 a0_1)
              have hcz62_2 := cq_ BK102.out 2 (.int .i64 a0_2)
              have hcz62_3 := cq_ BK102.out 3 (.int .i64 a0_3)
              have hcz62_4 := cq_ BK102.out 4 (.int .i64 a0_4)
              have hcz62_5 := cq_ BK102.out 5 (.int .i64 a0_5)
              have hfz62_0 := blk_frozen BK102.out 0
              have hfz62_1 := blk_frozen BK102.out 1
              have hfz62_2 := blk_frozen BK102.out 2
              have hfz62_3 := blk_frozen BK102.out 3
              have hfz62_4 := blk_frozen BK102.out 4
              have hfz62_5 := blk_frozen BK102.out 5
              go_wp2_with (first | (go_at_call 85; (with_reducible refine (spec_l2Zero.calls a0_0 a0_1 a0_2 a0_3 a0_4 a0_5 false false false false true t118 _ A61.out).mono ?_); rintro e w63 ⟨rfl, hb⟩; replace BK102 := bb_ BK102 hb; replace HB := bs_ hb; (try clear hb)))
              go_ret
              exact ⟨by first | rfl | (simp [errW_none, errW_some] <;> rfl) | (simp [*, errW_none, errW_some] <;> rfl), bq_⟩
             ·replace c60 := Bool.eq_false_iff.mpr c60
              subst c60
              have H1 : (some false) = some r := by rw [if_neg (show ¬ (false = true) by decide)] at H; exact H
              clear H
              have H := H1
              clear H1
              obtain rfl := Option.some.inj H
              go_wp2
              go_ret
              exact ⟨by first | rfl | (simp [errW_none, errW_some] <;> rfl) | (simp [*, errW_none, errW_some] <;> rfl), bq_⟩
            ·rw [if_neg c59] at H
             have c59b0 : (a0_0 == 8) = false := beq_eq_false_iff_ne.mpr c59
             have c59b1 : (a0_0 != 8) = true := bne_iff_ne.mpr c59
             have HC64 := am_ H
             clear H
             go_upto_if 86 with (fail)
             go_cut [86] (fun v86 wc => ∃ (kq : Nat) (x86_63 : Bool), v86 = .bool x86_63 ∧ Aside0 (spec_l2Step.j2 kq t104 x86_63 a0_0 a0_1 a0_2 a0_3 a0_4 a0_5 = some r) ∧ Aside0 (kq ≤ kj48) ∧ Aside0 (wc.heap[gb102]? = some (.cells #[.int .i64 a0_0, .int .i64 a0_1, .int .i64 a0_2, .int .i64 a0_3, .int .i64 a0_4, .int .i64 a0_5] 51 (0, 0))) ∧ Aside0 (Below w.heap.size w wc))
             case first =>
              have H := HC64.out
              clear HC64
              by_cases c65 : a0_0 = 9
              ·rw [if_pos c65] at H
               have c65b0 : (a0_0 == 9) = true := beq_iff_eq.mpr c65
               have c65b1 : (a0_0 != 9) = false := bne_eq_false_iff_eq.mpr c65
               clear c65
               (first | rw [c65b0] | (simp only [i64_w, i32_w]; rw [c65b0]) | skip)
               have H' := am_ H
               clear H
               go_wp2
               go_meet
               case rel => exact ⟨_, ((a0_0 == 9)), y14_, H', ⟨by have := HJ3.out; have := HJ48.out; first | omega | exact Nat.le_refl _⟩, ⟨bk_ BK102.out⟩, ⟨bq_⟩⟩
              ·rw [if_neg c65] at H
               have c65b0 : (a0_0 == 9) = false := beq_eq_false_iff_ne.mpr c65
               have c65b1 : (a0_0 != 9) = true := bne_iff_ne.mpr c65
               (first | rw [c65b0] | (simp only [i64_w, i32_w]; rw [c65b0]) | skip)
               have H' := am_ H
               clear H
               go_wp2
               go_meet
               case rel => exact ⟨_, ((a0_0 == 10)), y14_, H', ⟨by have := HJ3.out; have := HJ48.out; first | omega | exact Nat.le_refl _⟩, ⟨bk_ BK102.out⟩, ⟨bq_⟩⟩
             case rest =>
              clear HC64
              try clear c1
              try clear c2
              try clear p2
              try clear c3
              try clear c4
              try clear c5
              try clear c6
              try clear c7
              try clear c8
              try clear c12
              try clear c13
              try clear c13b0
              try clear c13b1
              try clear c14
              try clear c19
              try clear c19b0
              try clear c19b1
              try clear c20
              try clear c22
              try clear c28
              try clear c28b0
              try clear c28b1
              try clear c30
              try clear c35
              try clear c35b0
              try clear c35b1
              try clear c37
              try clear c42
              try clear c42b0
              try clear c42b1
              try clear c44
              try clear c51
              try clear c51b0
              try clear c51b1
              try clear c52
              try clear c54
              try clear c59
              try clear c59b0
              try clear c59b1
              try clear c60
              try clear c65
              try clear c65b0
              try clear c65b1
              try clear hcz10_0
              try clear hcz10_1
              try clear hcz10_2
              try clear hcz10_3
              try clear hcz10_4
              try clear hcz10_5
              try clear hcz11_0
              try clear hcz11_1
              try clear hcz11_2
              try clear hcz11_3
              try clear hcz11_4
              try clear hcz11_5
              try clear hcz16_0
              try clear hcz16_1
              try clear hcz16_2
              try clear hcz16_3
              try clear hcz16_4
              try clear hcz16_5
              try clear hcz18_0
              try clear hcz18_1
              try clear hcz18_2
              try clear hcz18_3
              try clear hcz18_4
              try clear hcz18_5
              try clear hcz24_0
              try clear hcz24_1
              try clear hcz24_2
              try clear hcz24_3
              try clear hcz24_4
              try clear hcz24_5
              try clear hcz26_0
              try clear hcz26_1
              try clear hcz26_2
              try clear hcz26_3
              try clear hcz26_4
              try clear hcz26_5
              try clear hcz27_0
              try clear hcz27_1
              try clear hcz27_2
              try clear hcz27_3
              try clear hcz27_4
              try clear hcz27_5
              try clear hcz32_0
              try clear hcz32_1
              try clear hcz32_2
              try clear hcz32_3
              try clear hcz32_4
              try clear hcz32_5
              try clear hcz34_0
              try clear hcz34_1
              try clear hcz34_2
              try clear hcz34_3
              try clear hcz34_4
              try clear hcz34_5
              try clear hcz39_0
              try clear hcz39_1
              try clear hcz39_2
              try clear hcz39_3
              try clear hcz39_4
              try clear hcz39_5
              try clear hcz41_0
              try clear hcz41_1
              try clear hcz41_2
              try clear hcz41_3
              try clear hcz41_4
              try clear hcz41_5
              try clear hcz46_0
              try clear hcz46_1
              try clear hcz46_2
              try clear hcz46_3
              try clear hcz46_4
              try clear hcz46_5
              try clear hcz48_0
              try clear hcz48_1
              try clear hcz48_2
              try clear hcz48_3
              try clear hcz48_4
              try clear hcz48_5
              try clear hcz50_0
              try clear hcz50_1
              try clear hcz50_2
              try clear hcz50_3
              try clear hcz50_4
              try clear hcz50_5
              try clear hcz56_0
              try clear hcz56_1
              try clear hcz56_2
              try clear hcz56_3
              try clear hcz56_4
              try clear hcz56_5
              try clear hcz58_0
              try clear hcz58_1
              try clear hcz58_2
              try clear hcz58_3
              try clear hcz58_4
              try clear hcz58_5
              try clear hcz62_0
              try clear hcz62_1
              try clear hcz62_2
              try clear hcz62_3
              try clear hcz62_4
              try clear hcz62_5
              try clear hcz6_0
              try clear hcz6_1
              try clear hcz6_2
              try clear hcz6_3
              try clear hcz6_4
              try clear hcz6_5
              try clear hfz10_0
              try clear hfz10_1
              try clear hfz10_2
              try clear hfz10_3
              try clear hfz10_4
              try clear hfz10_5
              try clear hfz11_0
              try clear hfz11_1
              try clear hfz11_2
              try clear hfz11_3
              try clear hfz11_4
              try clear hfz11_5
              try clear hfz16_0
              try clear hfz16_1
              try clear hfz16_2
              try clear hfz16_3
              try clear hfz16_4
              try clear hfz16_5
              try clear hfz18_0
              try clear hfz18_1
              try clear hfz18_2
              try clear hfz18_3
              try clear hfz18_4
              try clear hfz18_5
              try clear hfz24_0
              try clear hfz24_1
              try clear hfz24_2
              try clear hfz24_3
              try clear hfz24_4
              try clear hfz24_5
              try clear hfz26_0
              try clear hfz26_1
              try clear hfz26_2
              try clear hfz26_3
              try clear hfz26_4
              try clear hfz26_5
              try clear hfz27_0
              try clear hfz27_1
              try clear hfz27_2
              try clear hfz27_3
              try clear hfz27_4
              try clear hfz27_5
              try clear hfz32_0
              try clear hfz32_1
              try clear hfz32_2
              try clear hfz32_3
              try clear hfz32_4
              try clear hfz32_5
              try clear hfz34_0
              try clear hfz34_1
              try clear hfz34_2
              try clear hfz34_3
              try clear hfz34_4
              try clear hfz34_5
              try clear hfz39_0
              try clear hfz39_1
              try clear hfz39_2
              try clear hfz39_3
              try clear hfz39_4
              try clear hfz39_5
              try clear hfz41_0
              try clear hfz41_1
              try clear hfz41_2
              try clear hfz41_3
              try clear hfz41_4
              try clear hfz41_5
              try clear hfz46_0
              try clear hfz46_1
              try clear hfz46_2
              try clear hfz46_3
              try clear hfz46_4
              try clear hfz46_5
              try clear hfz48_0
              try clear hfz48_1
              try clear hfz48_2
              try clear hfz48_3
              try clear hfz48_4
              try clear hfz48_5
              try clear hfz50_0
              try clear hfz50_1
              try clear hfz50_2
              try clear hfz50_3
              try clear hfz50_4
              try clear hfz50_5
              try clear hfz56_0
              try clear hfz56_1
              try clear hfz56_2
              try clear hfz56_3
              try clear hfz56_4
              try clear hfz56_5
              try clear hfz58_0
              try clear hfz58_1
              try clear hfz58_2
              try clear hfz58_3
              try clear hfz58_4
              try clear hfz58_5
              try clear hfz62_0
              try clear hfz62_1
              try clear hfz62_2
              try clear hfz62_3
              try clear hfz62_4
              try clear hfz62_5
              try clear hfz6_0
              try clear hfz6_1
              try clear hfz6_2
              try clear hfz6_3
              try clear hfz6_4
              try clear hfz6_5
              try clear p2
              obtain ⟨kq, x86_63, rfl, HA, HJ63, BK102, HB⟩ := hcut
              cases kq with
              | zero => exact absurd HA.out (by simp [spec_l2Step.j2])
              | succ kj63 =>
               have H := HA.out
               clear HA
               simp only [spec_l2Step.j2] at H
               by_cases c66 : x86_63 = true
               ·subst c66
                have H1 : (if t104 = true then ((spec_l2Zero.f a0_0 a0_1 a0_2 a0_3 a0_4 a0_5 false true true false true).bind fun t119 => (some t119)) else (some false)) = some r := by rw [if_pos rfl] at H; exact H
                clear H
                have H := H1
                clear H1
                by_cases c67 : t104 = true
                ·subst c67
                 have H1 : ((spec_l2Zero.f a0_0 a0_1 a0_2 a0_3 a0_4 a0_5 false true true false true).bind fun t119 => (some t119)) = some r := by rw [if_pos rfl] at H; exact H
                 clear H
                 have H := H1
                 clear H1
                 replace H := Option.bind_eq_some_iff.mp H
                 obtain ⟨t119, A680, H⟩ := H
                 replace H : (some t119) = some r := H
                 have A68 := am_ A680
                 clear A680
                 obtain rfl := Option.some.inj H
                 have hcz69_0 := cq_ BK102.out 0 (.int .i64 a0_0)
                 have hcz69_1 := cq_ BK102.out 1 (.int .i64 a0_1)
                 have hcz69_2 := cq_ BK102.out 2 (.int .i64 a0_2)
                 have hcz69_3 := cq_ BK102.out 3 (.int .i64 a0_3)
                 have hcz69_4 := cq_ BK102.out 4 (.int .i64 a0_4)
                 have hcz69_5 := cq_ BK102.out 5 (.int .i64 a0_5)
                 have hfz69_0 := blk_frozen BK102.out 0
                 have hfz69_1 := blk_frozen BK102.out 1
                 have hfz69_2 := blk_frozen BK102.out 2
                 have hfz69_3 := blk_frozen BK102.out 3
                 have hfz69_4 := blk_frozen BK102.out 4
                 have hfz69_5 := blk_frozen BK102.out 5
                 go_wp2_with (first | (go_at_call 85; (with_reducible refine (spec_l2Zero.calls a0_0 a0_1 a0_2 a0_3 a0_4 a0_5 false true true false true t119 _ A68.out).mono ?_); rintro e w70 ⟨rfl, hb⟩; replace BK102 := bb_ BK102 hb; replace HB := bs_ hb; (try clear hb)))
                 go_ret
                 exact ⟨by first | rfl | (simp [errW_none, errW_some] <;> rfl) | (simp [*, errW_none, errW_some] <;> rfl), bq_⟩
                ·replace c67 := Bool.eq_false_iff.mpr c67
                 subst c67
                 have H1 : (some false) = some r := by rw [if_neg (show ¬ (false = true) by decide)] at H; exact H
                 clear H
                 have H := H1
                 clear H1
                 obtain rfl := Option.some.inj H
                 go_wp2
                 go_ret
                 exact ⟨by first | rfl | (simp [errW_none, errW_some] <;> rfl) | (simp [*, errW_none, errW_some] <;> rfl), bq_⟩
               ·replace c66 := Bool.eq_false_iff.mpr c66
                subst c66
                have H1 : (if a0_0 = 11 then ((spec_l2Zero.f a0_0 a0_1 a0_2 a0_3 a0_4 a0_5 false false false false false).bind fun t120 => (some t120)) else (some false)) = some r := by rw [if_neg (show ¬ (false = true) by decide)] at H; exact H
                clear H
                have H := H1
                clear H1
                by_cases c71 : a0_0 = 11
                ·rw [if_pos c71] at H
                 have c71b0 : (a0_0 == 11) = true := beq_iff_eq.mpr c71
                 have c71b1 : (a0_0 != 11) = false := bne_eq_false_iff_eq.mpr c71
                 clear c71
                 replace H := Option.bind_eq_some_iff.mp H
                 obtain ⟨t120, A720, H⟩ := H
                 replace H : (some t120) = some r := H
                 have A72 := am_ A720
                 clear A720
                 obtain rfl := Option.some.inj H
                 have hcz73_0 := cq_ BK102.out 0 (.int .i64 a0_0)
                 have hcz73_1 := cq_ BK102.out 1 (.int .i64 a0_1)
                 have hcz73_2 := cq_ BK102.out 2 (.int .i64 a0_2)
                 have hcz73_3 := cq_ BK102.out 3 (.int .i64 a0_3)
                 have hcz73_4 := cq_ BK102.out 4 (.int .i64 a0_4)
                 have hcz73_5 := cq_ BK102.out 5 (.int .i64 a0_5)
                 have hfz73_0 := blk_frozen BK102.out 0
                 have hfz73_1 := blk_frozen BK102.out 1
                 have hfz73_2 := blk_frozen BK102.out 2
                 have hfz73_3 := blk_frozen BK102.out 3
                 have hfz73_4 := blk_frozen BK102.out 4
                 have hfz73_5 := blk_frozen BK102.out 5
                 go_wp2_with (first | (go_at_call 85; (with_reducible refine (spec_l2Zero.calls a0_0 a0_1 a0_2 a0_3 a0_4 a0_5 false false false false false t120 _ A72.out).mono ?_); rintro e w74 ⟨rfl, hb⟩; replace BK102 := bb_ BK102 hb; replace HB := bs_ hb; (try clear hb)))
                 go_ret
                 exact ⟨by first | rfl | (simp [errW_none, errW_some] <;> rfl) | (simp [*, errW_none, errW_some] <;> rfl), bq_⟩
                ·rw [if_neg c71] at H
                 have c71b0 : (a0_0 == 11) = false := beq_eq_false_iff_ne.mpr c71
                 have c71b1 : (a0_0 != 11) = true := bne_iff_ne.mpr c71
                 obtain rfl := Option.some.inj H
                 have hcz75_0 := cq_ BK102.out 0 (.int .i64 a0_0)
                 have hcz75_1 := cq_ BK102.out 1 (.int .i64 a0_1)
                 have hcz75_2 := cq_ BK102.out 2 (.int .i64 a0_2)
                 have hcz75_3 := cq_ BK102.out 3 (.int .i64 a0_3)
                 have hcz75_4 := cq_ BK102.out 4 (.int .i64 a0_4)
                 have hcz75_5 := cq_ BK102.out 5 (.int .i64 a0_5)
                 have hfz75_0 := blk_frozen BK102.out 0
                 have hfz75_1 := blk_frozen BK102.out 1
                 have hfz75_2 := blk_frozen BK102.out 2
                 have hfz75_3 := blk_frozen BK102.out 3
                 have hfz75_4 := blk_frozen BK102.out 4
                 have hfz75_5 := blk_frozen BK102.out 5
                 go_wp2
                 go_ret
                 exact ⟨by first | rfl | (simp [errW_none, errW_some] <;> rfl) | (simp [*, errW_none, errW_some] <;> rfl), bq_⟩
end Go.Proofs.Ytcmhkgpalfljbaa.PPA
