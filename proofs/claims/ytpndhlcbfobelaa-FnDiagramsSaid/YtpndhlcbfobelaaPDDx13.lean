import Derived.Test.YtpndhlcbfobelaaPDDx0
import Derived.Test.YtpndhlcbfobelaaPDDx5
import Derived.Test.YtpndhlcbfobelaaPDDx8
import Derived.Test.YtpndhlcbfobelaaPDDx9
import Derived.Test.YtpndhlcbfobelaaPDDx10
import Derived.Test.YtpndhlcbfobelaaPDDx11
import Derived.Test.YtpndhlcbfobelaaPDDx12
namespace Go.Proofs.Ytpndhlcbfobelaa.PDD
open Go.RowKit Go.Proofs.YtpndhlcbfobelaaW.PrintWords Go.Proofs.YtpndhlcbfobelaaW.PrintLast Go.Proofs.YtpndhlcbfobelaaW.PrintMore
attribute [local go_sem] max2_int min2_int max_two min_two max_three min_three max_four min_four   -- for this text's walks alone
set_option linter.unusedVariables false
set_option linter.unusedSimpArgs false
mutual
def laws_FnDiagrams.j0 : Nat → List Int → Int → List Bool → Bool → Bool → Int → List (S75) → Int → Option (Bool)
  | 0, _, _, _, _, _, _, _, _ => none
  | k + 1, x1, x5, x6, x8, x70, x348000, x348001, x348002 => if x70 = true then (some false) else (if x8 = true then ((impl_TableOf.f k x348000 x348001 x348002).bind fun bt356 => ((impl_OnesOf.f k x348000 x348001 x348002).bind fun bt360 => (laws_FnDiagrams.l0 k x1 x5 x6 bt356.1 bt356.2 bt360.1 bt360.2 0 x6 (x6.length : Int) 0 x348000 x348001 x348002))) else (laws_FnDiagrams.j3 k x1))
def laws_FnDiagrams.j3 : Nat → List Int → Option (Bool)
  | 0, _ => none
  | k + 1, x1 => (spec_DrawEvalDiagram.f k x1).bind fun bt386 => ((impl_EvalDiagram.f k bt386.1 bt386.2.1 bt386.2.2.1 bt386.2.2.2).bind fun bt395 => ((spec_EvalDiagram.f k bt386.1 bt386.2.1 bt386.2.2.1 bt386.2.2.2).bind fun bt397 => ((spec_DrawOnesOf.f k x1).bind fun bt399 => ((impl_OnesOf.f k bt399.1 bt399.2.1 bt399.2.2).bind fun bt405 => ((spec_OnesOf.f k bt399.1 bt399.2.1 bt399.2.2).bind fun bt407 => ((impl_TableOf.f k bt399.1 bt399.2.1 bt399.2.2).bind fun bt409 => ((spec_TableOf.f k bt399.1 bt399.2.1 bt399.2.2).bind fun bt413 => (if (bt395.2 == bt397.2) = true then (if (bt395.1 == bt397.1) = true then (if (bt405.2 == bt407.2) = true then (if bt405.1 = bt407.1 then (if (bt409.2 == bt413.2) = true then ((laws_sameBools.f k bt409.1 bt413.1).bind fun t417 => (if t417 = true then ((impl_GoodDiagram.f k bt399.1 bt399.2.1 bt399.2.2).bind fun t418 => ((spec_GoodDiagram.f k bt399.1 bt399.2.1 bt399.2.2).bind fun t419 => (some (t418 == t419)))) else (some false))) else (some false)) else (some false)) else (some false)) else (some false)) else (some false)))))))))
def laws_FnDiagrams.l0 : Nat → List Int → Int → List Bool → List Bool → Bool → Int → Bool → Int → List Bool → Int → Int → Int → List (S75) → Int → Option (Bool)
  | 0, _, _, _, _, _, _, _, _, _, _, _, _, _, _ => none
  | k + 1, x1, x5, x6, x11, x12, x13, x14, x15, x82, x83, x84, x348000, x348001, x348002 => if x84 < x83 then (if 0 ≤ x84 then (if x84 < (x82.length : Int) then ((laws_modelOf.f k x5 x84).bind fun t363 => ((impl_EvalDiagram.f k x348000 x348001 x348002 t363).bind fun bt366 => (if bt366.2 = true then (laws_FnDiagrams.j2 k x1 x5 x6 x11 x12 x13 x14 x15 (rdOf false x82 x84) x82 x83 x84 (bt366.1 != (rdOf false x82 x84)) x348000 x348001 x348002) else (laws_FnDiagrams.j2 k x1 x5 x6 x11 x12 x13 x14 x15 (rdOf false x82 x84) x82 x83 x84 true x348000 x348001 x348002)))) else (none)) else (none)) else ((impl_NotOf.f k x348000 x348001 x348002).bind fun bt368 => ((impl_NotOf.f k bt368.1 bt368.2.1 bt368.2.2.1).bind fun bt375 => ((impl_GoodDiagram.f k x348000 x348001 x348002).bind fun t382 => (if t382 = true then (if x12 = true then ((laws_sameBools.f k x11 x6).bind fun t383 => (if t383 = true then (if x14 = true then (if x13 = x15 then (if bt368.2.2.2 = true then (if bt375.2.2.2 = true then ((laws_sameDiagram.f k bt375.1 bt375.2.1 bt375.2.2.1 x348000 x348001 x348002).bind fun t384 => (if t384 = true then ((laws_sameDiagram.f k bt368.1 bt368.2.1 bt368.2.2.1 x348000 x348001 x348002).bind fun t385 => (if t385 = true then (some false) else (laws_FnDiagrams.j3 k x1))) else (some false))) else (some false)) else (some false)) else (some false)) else (some false)) else (some false))) else (some false)) else (some false)))))
def laws_FnDiagrams.j2 : Nat → List Int → Int → List Bool → List Bool → Bool → Int → Bool → Int → Bool → List Bool → Int → Int → Bool → Int → List (S75) → Int → Option (Bool)
  | 0, _, _, _, _, _, _, _, _, _, _, _, _, _, _, _, _ => none
  | k + 1, x1, x5, x6, x11, x12, x13, x14, x15, x17, x82, x83, x84, x103, x348000, x348001, x348002 => if x103 = true then (some false) else (if x17 = true then (laws_FnDiagrams.l0 k x1 x5 x6 x11 x12 x13 x14 (wrap64 (x15 + 1)) x82 x83 (wrap64 (x84 + 1)) x348000 x348001 x348002) else (laws_FnDiagrams.l0 k x1 x5 x6 x11 x12 x13 x14 x15 x82 x83 (wrap64 (x84 + 1)) x348000 x348001 x348002))
end
def laws_FnDiagrams.f (k : Nat) (l0 : List Int) (l1 : List Int) : Option (Bool) := if (wrap64 ((l0.length : Int) + (l1.length : Int))) > 1048576 then (some true) else ((spec_DrawDiagramOf.f k l0).bind fun bt337 => ((impl_DiagramOf.f k bt337.1 bt337.2).bind fun bt341 => ((spec_DiagramOf.f k bt337.1 bt337.2).bind fun bt348 => (if (bt341.2.2.2 != bt348.2.2.2) = true then (laws_FnDiagrams.j0 k l1 bt337.1 bt337.2 bt341.2.2.2 true bt341.1 bt341.2.1 bt341.2.2.1) else ((laws_sameDiagram.f k bt341.1 bt341.2.1 bt341.2.2.1 bt348.1 bt348.2.1 bt348.2.2.1).bind fun t355 => (laws_FnDiagrams.j0 k l1 bt337.1 bt337.2 bt341.2.2.2 (!t355) bt341.1 bt341.2.1 bt341.2.2.1))))))
def laws_FnDiagrams.T15 : Bool × List (List Nat × List Nat) := (true, [([], []), ([], []), ([], []), ([1, 2], [1, 2]), ([0, 3, 3], [0, 3]), ([4], [4]), ([5], [5]), ([5], [5]), ([6, 4, 0, 1, 2, 3, 4, 5, 6], [6]), ([7, 8, 0, 1, 2, 3, 4, 5, 6, 7, 8], [7])])
def laws_FnDiagrams.B15 : List Nat := [0, 0, 0, 6, 15, 31, 63, 63, 127, 511]
theorem laws_FnDiagrams.tab15 : rtab .any (opsOf Try.f10 15) = laws_FnDiagrams.T15 := by kernel_rfl
theorem laws_FnDiagrams.bits15 : waitsOk laws_FnDiagrams.T15.2 laws_FnDiagrams.B15 = true := by kernel_rfl
def laws_FnDiagrams.T33 : Bool × List (List Nat × List Nat) := (true, [([], []), ([], []), ([0, 1], [0, 1]), ([2], [2]), ([3], [3]), ([3], [3]), ([4, 5, 3], [3, 4, 5]), ([3, 6], [3, 6]), ([7, 3], [7]), ([8], [8]), ([8], [8]), ([9, 10, 8], [8, 9, 10]), ([8, 11], [8, 11]), ([12, 8], [12]), ([13], [13]), ([13], [13]), ([14, 15, 13], [13, 14, 15]), ([13, 16], [13, 16]), ([17, 13], [17]), ([18], [18]), ([18], [18]), ([19, 20, 18], [18, 19, 20]), ([18, 21], [18, 21]), ([22, 18], [22]), ([23], [23]), ([23], [23]), ([24, 25, 23, 23], [23, 24, 25]), ([23, 26], [23, 26]), ([27, 26], [27]), ([28], [28]), ([29, 28, 28], [28, 29]), ([28], [28]), ([31, 30, 28], [28, 31]), ([30, 32, 28], [28, 30, 32]), ([28, 33], [28, 33]), ([34, 32, 0, 1, 2, 3, 4, 5, 6, 7, 8, 9, 10, 11, 12, 13, 14, 15, 16, 17, 18, 19, 20, 21, 22, 23, 24, 25, 26, 27, 28, 29, 30, 31, 32, 33, 34], [34])])
def laws_FnDiagrams.B33 : List Nat := [0, 0, 3, 7, 15, 15, 63, 127, 255, 511, 511, 2047, 4095, 8191, 16383, 16383, 65535, 131071, 262143, 524287, 524287, 2097151, 4194303, 8388607, 16777215, 16777215, 67108863, 134217727, 268435455, 536870911, 1073741823, 536870911, 4294967295, 8589934591, 17179869183, 34359738367]
theorem laws_FnDiagrams.tab33 : rtab .any (opsOf Try.f10 33) = laws_FnDiagrams.T33 := by kernel_rfl
theorem laws_FnDiagrams.bits33 : waitsOk laws_FnDiagrams.T33.2 laws_FnDiagrams.B33 = true := by kernel_rfl
theorem laws_FnDiagrams.j0_no_4 {k : Nat} {y0 : List Int} {y1 : Int} {y2 : List Bool} {y3 : Bool} {y5 : Int} {y6 : List (S75)} {y7 : Int} (h : laws_FnDiagrams.j0 k y0 y1 y2 y3 true y5 y6 y7 = some true) : False := by
  cases k <;> simp [laws_FnDiagrams.j0] at h
theorem laws_FnDiagrams.j2_no_12 {k : Nat} {y0 : List Int} {y1 : Int} {y2 : List Bool} {y3 : List Bool} {y4 : Bool} {y5 : Int} {y6 : Bool} {y7 : Int} {y8 : Bool} {y9 : List Bool} {y10 : Int} {y11 : Int} {y13 : Int} {y14 : List (S75)} {y15 : Int} (h : laws_FnDiagrams.j2 k y0 y1 y2 y3 y4 y5 y6 y7 y8 y9 y10 y11 true y13 y14 y15 = some true) : False := by
  cases k <;> simp [laws_FnDiagrams.j2] at h
set_option maxHeartbeats 8000000 in
set_option maxRecDepth 100000 in
theorem laws_FnDiagrams.calls (k : Nat) (A0 : Option Addr) (c0 : Nat) (l0 : List Int) (A1 : Option Addr) (c1 : Nat) (l1 : List Int) (r : Bool) (w : World) (hr0 : Kd.C (Kd.int .u8) w A0 l0.length l0) (hc0 : l0.length ≤ c0) (hr1 : Kd.C (Kd.int .u8) w A1 l1.length l1) (hc1 : l1.length ≤ c1) (hr_ : Aside0 (r = true)) (h : laws_FnDiagrams.f k l0 l1 = some r) :
    Calls Try.prog 10 #[.slice A0 l0.length c0, .slice A1 l1.length c1] w fun e w' => e = .returned (.bool r) ∧ Below w.heap.size w w' := by
  have hu30 := Try.underlying30
  have HR0 := Aside0.mk hr0
  have HC0 := Aside0.mk hc0
  clear hr0 hc0
  have HR1 := Aside0.mk hr1
  have HC1 := Aside0.mk hc1
  clear hr1 hc1
  have HB := Aside0.mk (Below.refl w.heap.size w)
  have H : (if (wrap64 ((l0.length : Int) + (l1.length : Int))) > 1048576 then (some true) else ((spec_DrawDiagramOf.f k l0).bind fun bt337 => ((impl_DiagramOf.f k bt337.1 bt337.2).bind fun bt341 => ((spec_DiagramOf.f k bt337.1 bt337.2).bind fun bt348 => (if (bt341.2.2.2 != bt348.2.2.2) = true then (laws_FnDiagrams.j0 k l1 bt337.1 bt337.2 bt341.2.2.2 true bt341.1 bt341.2.1 bt341.2.2.1) else ((laws_sameDiagram.f k bt341.1 bt341.2.1 bt341.2.2.1 bt348.1 bt348.2.1 bt348.2.2.1).bind fun t355 => (laws_FnDiagrams.j0 k l1 bt337.1 bt337.2 bt341.2.2.2 (!t355) bt341.1 bt341.2.1 bt341.2.2.1))))))) = some r := h
  clear h
  by_cases c3 : (wrap64 ((l0.length : Int) + (l1.length : Int))) > 1048576
  · rw [if_pos c3] at H
    have c3b0 : decide (1048576 < (wrap64 ((l0.length : Int) + (l1.length : Int)))) = true := decide_eq_true c3
    clear c3
    obtain rfl := Option.some.inj H
    go_enter Try.func10, Try.ntmps10
    go_wp2
    go_ret
    exact ⟨by first | rfl | (simp [errW_none, errW_some] <;> rfl) | (simp [*, errW_none, errW_some] <;> rfl), bq_⟩
  · rw [if_neg c3] at H
    have c3b0 : decide (1048576 < (wrap64 ((l0.length : Int) + (l1.length : Int)))) = false := decide_eq_false c3
    clear c3
    replace H := Option.bind_eq_some_iff.mp H
    obtain ⟨⟨t337, t338⟩, A40, H⟩ := H
    replace H : ((impl_DiagramOf.f k t337 t338).bind fun bt341 => ((spec_DiagramOf.f k t337 t338).bind fun bt348 => (if (bt341.2.2.2 != bt348.2.2.2) = true then (laws_FnDiagrams.j0 k l1 t337 t338 bt341.2.2.2 true bt341.1 bt341.2.1 bt341.2.2.1) else ((laws_sameDiagram.f k bt341.1 bt341.2.1 bt341.2.2.1 bt348.1 bt348.2.1 bt348.2.2.1).bind fun t355 => (laws_FnDiagrams.j0 k l1 t337 t338 bt341.2.2.2 (!t355) bt341.1 bt341.2.1 bt341.2.2.1))))) = some r := H
    have A4 := Aside0.mk A40
    clear A40
    replace H := Option.bind_eq_some_iff.mp H
    obtain ⟨⟨t341, t342, t345, t346⟩, A50, H⟩ := H
    replace H : ((spec_DiagramOf.f k t337 t338).bind fun bt348 => (if (t346 != bt348.2.2.2) = true then (laws_FnDiagrams.j0 k l1 t337 t338 t346 true t341 t342 t345) else ((laws_sameDiagram.f k t341 t342 t345 bt348.1 bt348.2.1 bt348.2.2.1).bind fun t355 => (laws_FnDiagrams.j0 k l1 t337 t338 t346 (!t355) t341 t342 t345)))) = some r := H
    have A5 := Aside0.mk A50
    clear A50
    replace H := Option.bind_eq_some_iff.mp H
    obtain ⟨⟨t348, t349, t352, t353⟩, A60, H⟩ := H
    replace H : (if (t346 != t353) = true then (laws_FnDiagrams.j0 k l1 t337 t338 t346 true t341 t342 t345) else ((laws_sameDiagram.f k t341 t342 t345 t348 t349 t352).bind fun t355 => (laws_FnDiagrams.j0 k l1 t337 t338 t346 (!t355) t341 t342 t345))) = some r := H
    have A6 := Aside0.mk A60
    clear A60
    have HC7 := Aside0.mk H
    clear H
    go_enter Try.func10, Try.ntmps10
    go_upto_region 6 with (first | ((with_reducible refine gate_callee (f := 39) rfl ?_); refine goesL_ (some 47) rfl rfl Try.func39 (by kernel_rfl) rfl #[.slice A0 l0.length c0] rfl (by (try simp only [List.map_toArray, List.map_cons, List.map_nil]); first | done | rfl | (simp only [List.length_drop, List.length_take]; rfl)) ?_; (with_reducible refine (spec_DrawDiagramOf.calls k _ _ l0 t337 t338 _ ?side1 ?side2 A4.out).mono ?_); (case side1 => repeat (first | exact HR0.out | (with_reducible refine Kd.C_alloc ?_ _) | (with_reducible refine Kd.C_drewN ?_ _) | (with_reducible refine Kd.C_drew ?_))); (case side2 => exact HC0.out); rintro e w8 ⟨v339, rfl, ho0, hb⟩; refine ⟨_, rfl, ?_⟩; have n0_ := Aside0.mk (Kd.R_lower ho0 (below_size (bq_))); have n1_ := Aside0.mk (below_step (bq_) hb); clear HB; have HO340 := n0_; have HB := n1_; clear n0_ n1_; (try clear hb); (try clear hb2); (try clear hk); (try clear hi); (try clear ho0); obtain ⟨Ao9, co9, eo9⟩ := Kd.R_slice HO340.out; subst eo9) | ((with_reducible refine gate_callee (f := 40) rfl ?_); refine goesL_ (some 53) rfl rfl Try.func40 (by kernel_rfl) rfl #[.int .i64 t337, .slice Ao9 t338.length co9] rfl (by (try simp only [List.map_toArray, List.map_cons, List.map_nil]); first | done | rfl | (simp only [List.length_drop, List.length_take]; rfl)) ?_; (with_reducible refine (impl_DiagramOf.calls k t337 _ _ t338 t341 t342 t345 t346 _ ?side1 ?side2 A5.out).mono ?_); (case side1 => repeat (first | exact (Kd.R_reads' HO340.out).2.2 | (with_reducible refine Kd.C_alloc ?_ _) | (with_reducible refine Kd.C_drewN ?_ _) | (with_reducible refine Kd.C_drew ?_))); (case side2 => exact (Kd.R_reads' HO340.out).2.1); rintro e w10 ⟨v343, rfl, ho0, hb⟩; refine ⟨_, rfl, ?_⟩; have n0_ := Aside0.mk (Kd.R_below (rq_ HO340.out) hb); have n1_ := Aside0.mk (Kd.R_lower ho0 (below_size (bq_))); have n2_ := Aside0.mk (below_step (bq_) hb); clear HO340; clear HB; have HO340 := n0_; have HO344 := n1_; have HB := n2_; clear n0_ n1_ n2_; (try clear hb); (try clear hb2); (try clear hk); (try clear hi); (try clear ho0)) | ((with_reducible refine gate_dst (N := 7) rfl ?_); refine boxq_ (N := 7) (cs := #[.int .i64 0, .slice none 0 0, .int .i64 0]) (t := 30) ?_; intro gb347 hg w11 hbox hb; have n0_ := Aside0.mk (Kd.R_below (rq_ HO340.out) hb); have n1_ := Aside0.mk (Kd.R_below (rq_ HO344.out) hb); have n2_ := Aside0.mk (below_step (bq_) hb); have n3_ := Aside0.mk (hbox); have n4_ := Aside0.mk ((by rw [hg]; exact (below_size (bq_)) : w.heap.size ≤ gb347)); have n5_ := Aside0.mk ((by rw [hg]; exact (below_size (bq_)) : w.heap.size ≤ gb347)); clear HO340; clear HO344; clear HB; have HO340 := n0_; have HO344 := n1_; have HB := n2_; have BK347 := n3_; have GW347 := n4_; have GE347 := n5_; clear n0_ n1_ n2_ n3_ n4_ n5_; clear hb hbox hg; have hcz12_0 := cq_ BK347.out 0 (.int .i64 0); have hcz12_1 := cq_ BK347.out 1 (.slice none 0 0); have hcz12_2 := cq_ BK347.out 2 (.int .i64 0); have hfz12_0 := blk_frozen BK347.out 0; have hfz12_1 := blk_frozen BK347.out 1; have hfz12_2 := blk_frozen BK347.out 2; obtain ⟨Ao13, co13, eo13⟩ := Kd.R_slice HO344.out; subst eo13) | ((with_reducible refine gate_callee (f := 41) rfl ?_); refine goesL_ (some 59) rfl rfl Try.func41 (by kernel_rfl) rfl #[.int .i64 t337, .slice Ao9 t338.length co9] rfl (by (try simp only [List.map_toArray, List.map_cons, List.map_nil]); first | done | rfl | (simp only [List.length_drop, List.length_take]; rfl)) ?_; (with_reducible refine (spec_DiagramOf.calls k t337 _ _ t338 t348 t349 t352 t353 _ ?side1 ?side2 A6.out).mono ?_); (case side1 => refine (Kd.R_reads' (e := 4) (base := w.heap.size) (ok := fun k_ => True) (n := t338.length) (c := co9) ?_).2.2; exact (rq_ ((Kd.R_mono (Kd.R_far (p := ⟨gb347, 2, none⟩) (Kd.R_far (p := ⟨gb347, 1, none⟩) (Kd.R_far (p := ⟨gb347, 0, none⟩) (Kd.R_types HO340.out BK347.out (by decide)) (fun _ hk => hk.2) (.int .i64 t341)) (fun _ hk => hk.2) (.slice Ao13 t342.length co13)) (fun _ hk => hk.2) (.int .i64 t345)) (fun _ h_ => h_.1))))); (case side2 => exact (Kd.R_reads' HO340.out).2.1); rintro e w14 ⟨v350, rfl, ho0, hb⟩; refine ⟨_, rfl, ?_⟩; have n0_ := Aside0.mk (Kd.R_below (rq_ ((Kd.R_mono (Kd.R_far (p := ⟨gb347, 2, none⟩) (Kd.R_far (p := ⟨gb347, 1, none⟩) (Kd.R_far (p := ⟨gb347, 0, none⟩) (Kd.R_types HO340.out BK347.out (by decide)) (fun _ hk => hk.2) (.int .i64 t341)) (fun _ hk => hk.2) (.slice Ao13 t342.length co13)) (fun _ hk => hk.2) (.int .i64 t345)) (fun _ h_ => h_.1)))) hb); have n1_ := Aside0.mk (Kd.R_elder' (rq_ ((Kd.R_mono (Kd.R_far (p := ⟨gb347, 2, none⟩) (Kd.R_far (p := ⟨gb347, 1, none⟩) (Kd.R_far (p := ⟨gb347, 0, none⟩) (Kd.R_types HO344.out BK347.out (by decide)) (fun _ hk => hk.2) (.int .i64 t341)) (fun _ hk => hk.2) (.slice Ao13 t342.length co13)) (fun _ hk => hk.2) (.int .i64 t345)) (fun _ h_ => h_.1)))) (Kd.R_base ho0) hb); have n2_ := Aside0.mk (Kd.R_lower (Kd.R_new' ho0 (Kd.R_lt (rq_ ((Kd.R_mono (Kd.R_far (p := ⟨gb347, 2, none⟩) (Kd.R_far (p := ⟨gb347, 1, none⟩) (Kd.R_far (p := ⟨gb347, 0, none⟩) (Kd.R_types HO344.out BK347.out (by decide)) (fun _ hk => hk.2) (.int .i64 t341)) (fun _ hk => hk.2) (.slice Ao13 t342.length co13)) (fun _ hk => hk.2) (.int .i64 t345)) (fun _ h_ => h_.1)))))) (below_size (bq_))); have n3_ := Aside0.mk (blk_below (g := gb347) (o := .cells #[.int .i64 t341, .slice Ao13 t342.length co13, .int .i64 t345] 30 (0, 0)) (by (with_reducible repeat (first | refine blk_drewN ?_ _ | refine blk_drew ?_ | refine blk_alloc ?_ _)); refine blk_put (cs := #[.int .i64 t341, .slice Ao13 t342.length co13, .int .i64 0]) ?_ 2 _ rfl; (with_reducible repeat (first | refine blk_drewN ?_ _ | refine blk_drew ?_ | refine blk_alloc ?_ _)); refine blk_put (cs := #[.int .i64 t341, .slice none 0 0, .int .i64 0]) ?_ 1 _ rfl; (with_reducible repeat (first | refine blk_drewN ?_ _ | refine blk_drew ?_ | refine blk_alloc ?_ _)); refine blk_put (cs := #[.int .i64 0, .slice none 0 0, .int .i64 0]) ?_ 0 _ rfl; (with_reducible repeat (first | refine blk_drewN ?_ _ | refine blk_drew ?_ | refine blk_alloc ?_ _)); exact BK347.out) hb); have n4_ := Aside0.mk (below_step (bq_) hb); clear HO340; clear HO344; clear BK347; clear HB; have HO340 := n0_; have HO344 := n1_; have HO351 := n2_; have BK347 := n3_; have HB := n4_; clear n0_ n1_ n2_ n3_ n4_; (try clear hb); (try clear hb2); (try clear hk); (try clear hi); (try clear ho0)) | ((with_reducible refine gate_dst (N := 9) rfl ?_); refine boxq_ (N := 9) (cs := #[.int .i64 0, .slice none 0 0, .int .i64 0]) (t := 30) ?_; intro gb354 hg w15 hbox hb; have n0_ := Aside0.mk (Kd.R_below (rq_ HO340.out) hb); have n1_ := Aside0.mk (Kd.R_below (rq_ HO344.out) hb); have n2_ := Aside0.mk (Kd.R_below (rq_ HO351.out) hb); have n3_ := Aside0.mk (blk_below (bk_ BK347.out) hb); have n4_ := Aside0.mk (below_step (bq_) hb); have n5_ := Aside0.mk (hbox); have n6_ := Aside0.mk ((by rw [hg]; exact (below_size (bq_)) : w.heap.size ≤ gb354)); have n7_ := Aside0.mk ((by rw [hg]; exact (below_size (bq_)) : w.heap.size ≤ gb354)); have n8_ := Aside0.mk ((by rw [hg]; exact Nat.ne_of_lt (blk_lt (bk_ BK347.out)) : gb347 ≠ gb354)); have n9_ := Aside0.mk ((by rw [hg]; exact Nat.ne_of_gt (blk_lt (bk_ BK347.out)) : gb354 ≠ gb347)); clear HO340; clear HO344; clear HO351; clear BK347; clear HB; have HO340 := n0_; have HO344 := n1_; have HO351 := n2_; have BK347 := n3_; have HB := n4_; have BK354 := n5_; have GW354 := n6_; have GE354 := n7_; have NB347_354 := n8_; have NB354_347 := n9_; clear n0_ n1_ n2_ n3_ n4_ n5_ n6_ n7_ n8_ n9_; clear hb hbox hg; have hnb16 := NB354_347.out; have hnc16 := NB347_354.out; have hcz17_0 := cq_ BK354.out 0 (.int .i64 0); have hcz17_1 := cq_ BK354.out 1 (.slice none 0 0); have hcz17_2 := cq_ BK354.out 2 (.int .i64 0); have hfz17_0 := blk_frozen BK354.out 0; have hfz17_1 := blk_frozen BK354.out 1; have hfz17_2 := blk_frozen BK354.out 2; obtain ⟨Ao18, co18, eo18⟩ := Kd.R_slice HO351.out; subst eo18))
    (try simp only [Act.put, List.setIfInBounds_toArray, List.set_cons_zero, List.set_cons_succ])
    go_cut [70] (fun v70 wc => ∃ (kq : Nat) (x70_6 : Bool), v70 = .bool x70_6 ∧ Aside0 (laws_FnDiagrams.j0 kq l1 t337 t338 t346 x70_6 t341 t342 t345 = some r) ∧ Aside0 (kq ≤ k) ∧ Aside0 (Kd.R Kd.bool 4 wc w.heap.size (fun _ => True) (.slice Ao9 t338.length co9) t338) ∧ Aside0 (Kd.R k75 75 wc w.heap.size (fun k_ => some k_ ≠ ((.slice Ao18 t349.length co18) : Value).ownBlock) (.slice Ao13 t342.length co13) t342) ∧ Aside0 (Kd.R k75 75 wc w.heap.size (fun k_ => some k_ ≠ ((.slice Ao13 t342.length co13) : Value).ownBlock) (.slice Ao18 t349.length co18) t349) ∧ Aside0 (wc.heap[gb347]? = some (.cells #[.int .i64 t341, (.slice Ao13 t342.length co13), .int .i64 t345] 30 (0, 0))) ∧ Aside0 (wc.heap[gb354]? = some (.cells #[.int .i64 t348, (.slice Ao18 t349.length co18), .int .i64 t352] 30 (0, 0))) ∧ Aside0 (Below w.heap.size w wc))
    case first =>
      have H := HC7.out
      clear HC7
      by_cases c19 : (t346 != t353) = true
      · rw [if_pos c19] at H
        have c19b0 : (t346 != t353) = true := c19
        (try (have c19b1 : decide (t346 = t353) = false := by simpa using c19))
        (try (have c19b2 : (t346 == t353) = false := by simpa using c19))
        (try (have c19b3 : ¬ (t346 = t353) := by simpa using c19))
        clear c19
        (first | rw [c19b0] | (simp only [i64_w, i32_w]; rw [c19b0]) | skip)
        exact (laws_FnDiagrams.j0_no_4 (by rw [hr_.out] at H; exact H)).elim
      · rw [if_neg c19] at H
        have c19b0 : (t346 != t353) = false := by simpa using c19
        (try (have c19b1 : decide (t346 = t353) = true := by simpa using c19))
        (try (have c19b2 : (t346 == t353) = true := by simpa using c19))
        clear c19
        (first | rw [c19b0] | (simp only [i64_w, i32_w]; rw [c19b0]) | skip)
        replace H := Option.bind_eq_some_iff.mp H
        obtain ⟨t355, A200, H⟩ := H
        replace H : (laws_FnDiagrams.j0 k l1 t337 t338 t346 (!t355) t341 t342 t345) = some r := H
        have A20 := Aside0.mk A200
        clear A200
        have H' := Aside0.mk H
        clear H
        have hnb21 := NB347_354.out
        have hnc21 := NB354_347.out
        have hcz22_0 := cq_ BK347.out 0 (.int .i64 t341)
        have hcz22_1 := cq_ BK347.out 1 (.slice Ao13 t342.length co13)
        have hcz22_2 := cq_ BK347.out 2 (.int .i64 t345)
        have hfz22_0 := blk_frozen BK347.out 0
        have hfz22_1 := blk_frozen BK347.out 1
        have hfz22_2 := blk_frozen BK347.out 2
        have hcz23_0 := cq_ BK354.out 0 (.int .i64 0)
        have hcz23_1 := cq_ BK354.out 1 (.slice none 0 0)
        have hcz23_2 := cq_ BK354.out 2 (.int .i64 0)
        have hfz23_0 := blk_frozen BK354.out 0
        have hfz23_1 := blk_frozen BK354.out 1
        have hfz23_2 := blk_frozen BK354.out 2
        go_wp2_with (first | (go_at_call 42; (with_reducible refine (laws_sameDiagram.calls k t341 _ _ t342 t345 t348 _ _ t349 t352 t355 _ ?side1 ?side2 ?side3 ?side4 A20.out).mono ?_); (case side1 => refine (Kd.R_reads' (e := 75) (base := w.heap.size) (ok := fun k_ => (True ∧ some k_ ≠ (.slice Ao18 t349.length co18 : Value).ownBlock)) (n := t342.length) (c := co13) ?_).2.2; exact (rq_ ((Kd.R_mono (Kd.R_far (p := ⟨gb354, 2, none⟩) (Kd.R_far (p := ⟨gb354, 1, none⟩) (Kd.R_far (p := ⟨gb354, 0, none⟩) (Kd.R_types HO344.out BK354.out (by decide)) (fun _ hk => hk.2) (.int .i64 t348)) (fun _ hk => hk.2) (.slice Ao18 t349.length co18)) (fun _ hk => hk.2) (.int .i64 t352)) (fun _ h_ => h_.1))))); (case side2 => exact (Kd.R_reads' HO344.out).2.1); (case side3 => refine (Kd.R_reads' (e := 75) (base := w.heap.size) (ok := fun k_ => (True ∧ some k_ ≠ (.slice Ao13 t342.length co13 : Value).ownBlock)) (n := t349.length) (c := co18) ?_).2.2; exact (rq_ ((Kd.R_mono (Kd.R_far (p := ⟨gb354, 2, none⟩) (Kd.R_far (p := ⟨gb354, 1, none⟩) (Kd.R_far (p := ⟨gb354, 0, none⟩) (Kd.R_types HO351.out BK354.out (by decide)) (fun _ hk => hk.2) (.int .i64 t348)) (fun _ hk => hk.2) (.slice Ao18 t349.length co18)) (fun _ hk => hk.2) (.int .i64 t352)) (fun _ h_ => h_.1))))); (case side4 => exact (Kd.R_reads' HO351.out).2.1); rintro e w24 ⟨rfl, hb⟩; have n0_ := Aside0.mk (Kd.R_below (rq_ ((Kd.R_mono (Kd.R_far (p := ⟨gb354, 2, none⟩) (Kd.R_far (p := ⟨gb354, 1, none⟩) (Kd.R_far (p := ⟨gb354, 0, none⟩) (Kd.R_types HO340.out BK354.out (by decide)) (fun _ hk => hk.2) (.int .i64 t348)) (fun _ hk => hk.2) (.slice Ao18 t349.length co18)) (fun _ hk => hk.2) (.int .i64 t352)) (fun _ h_ => h_.1)))) hb); have n1_ := Aside0.mk (Kd.R_below (rq_ ((Kd.R_mono (Kd.R_far (p := ⟨gb354, 2, none⟩) (Kd.R_far (p := ⟨gb354, 1, none⟩) (Kd.R_far (p := ⟨gb354, 0, none⟩) (Kd.R_types HO344.out BK354.out (by decide)) (fun _ hk => hk.2) (.int .i64 t348)) (fun _ hk => hk.2) (.slice Ao18 t349.length co18)) (fun _ hk => hk.2) (.int .i64 t352)) (fun _ h_ => h_.1)))) hb); have n2_ := Aside0.mk (Kd.R_below (rq_ ((Kd.R_mono (Kd.R_far (p := ⟨gb354, 2, none⟩) (Kd.R_far (p := ⟨gb354, 1, none⟩) (Kd.R_far (p := ⟨gb354, 0, none⟩) (Kd.R_types HO351.out BK354.out (by decide)) (fun _ hk => hk.2) (.int .i64 t348)) (fun _ hk => hk.2) (.slice Ao18 t349.length co18)) (fun _ hk => hk.2) (.int .i64 t352)) (fun _ h_ => h_.1)))) hb); have n3_ := Aside0.mk (blk_below (g := gb347) (o := .cells #[.int .i64 t341, .slice Ao13 t342.length co13, .int .i64 t345] 30 (0, 0)) (by (with_reducible repeat (first | refine blk_drewN ?_ _ | refine blk_drew ?_ | refine blk_alloc ?_ _)); refine blk_far ?_ NB347_354.out _; (with_reducible repeat (first | refine blk_drewN ?_ _ | refine blk_drew ?_ | refine blk_alloc ?_ _)); refine blk_far ?_ NB347_354.out _; (with_reducible repeat (first | refine blk_drewN ?_ _ | refine blk_drew ?_ | refine blk_alloc ?_ _)); refine blk_far ?_ NB347_354.out _; (with_reducible repeat (first | refine blk_drewN ?_ _ | refine blk_drew ?_ | refine blk_alloc ?_ _)); exact BK347.out) hb); have n4_ := Aside0.mk (blk_below (g := gb354) (o := .cells #[.int .i64 t348, .slice Ao18 t349.length co18, .int .i64 t352] 30 (0, 0)) (by (with_reducible repeat (first | refine blk_drewN ?_ _ | refine blk_drew ?_ | refine blk_alloc ?_ _)); refine blk_put (cs := #[.int .i64 t348, .slice Ao18 t349.length co18, .int .i64 0]) ?_ 2 _ rfl; (with_reducible repeat (first | refine blk_drewN ?_ _ | refine blk_drew ?_ | refine blk_alloc ?_ _)); refine blk_put (cs := #[.int .i64 t348, .slice none 0 0, .int .i64 0]) ?_ 1 _ rfl; (with_reducible repeat (first | refine blk_drewN ?_ _ | refine blk_drew ?_ | refine blk_alloc ?_ _)); refine blk_put (cs := #[.int .i64 0, .slice none 0 0, .int .i64 0]) ?_ 0 _ rfl; (with_reducible repeat (first | refine blk_drewN ?_ _ | refine blk_drew ?_ | refine blk_alloc ?_ _)); exact BK354.out) hb); have n5_ := Aside0.mk (below_step (bq_) hb); clear HO340; clear HO344; clear HO351; clear BK347; clear BK354; clear HB; have HO340 := n0_; have HO344 := n1_; have HO351 := n2_; have BK347 := n3_; have BK354 := n4_; have HB := n5_; clear n0_ n1_ n2_ n3_ n4_ n5_; (try clear hb); (try clear hb2); (try clear hk); (try clear hi)))
        go_meet
        case rel => exact ⟨_, (!t355), (by first | rfl | (simp; done) | (simp [*]; done)), H', ⟨by first | omega | exact Nat.le_refl _⟩, ⟨rq_ HO340.out⟩, ⟨rq_ (Kd.R_mono HO344.out (fun _ hk => hk.2))⟩, ⟨rq_ (Kd.R_mono HO351.out (fun _ hk => hk.2))⟩, ⟨bk_ BK347.out⟩, ⟨bk_ BK354.out⟩, ⟨bq_⟩⟩
    case rest =>
      clear HC7
      try clear c1
      try clear c2
      try clear p2
      try clear c3
      try clear c3b0
      try clear c4
      try clear p6
      try clear c10
      try clear c16
      try clear c19
      try clear c19b0
      try clear c19b1
      try clear c19b2
      try clear c21
      try clear hcz12_0
      try clear hcz12_1
      try clear hcz12_2
      try clear hcz17_0
      try clear hcz17_1
      try clear hcz17_2
      try clear hcz22_0
      try clear hcz22_1
      try clear hcz22_2
      try clear hcz23_0
      try clear hcz23_1
      try clear hcz23_2
      try clear hfz12_0
      try clear hfz12_1
      try clear hfz12_2
      try clear hfz17_0
      try clear hfz17_1
      try clear hfz17_2
      try clear hfz22_0
      try clear hfz22_1
      try clear hfz22_2
      try clear hfz23_0
      try clear hfz23_1
      try clear hfz23_2
      obtain ⟨kq, x70_6, rfl, HA, HJ6, HO_6, HO_348001, HO_355001, BK347, BK354, HB⟩ := hcut
      cases kq with
      | zero => exact absurd HA.out (by simp [laws_FnDiagrams.j0])
      | succ kj6 =>
        have H := HA.out
        clear HA
        simp only [laws_FnDiagrams.j0] at H
        by_cases c25 : x70_6 = true
        · subst c25
          have H1 : (some false) = some r := by rw [if_pos rfl] at H; exact H
          clear H
          have H := H1
          clear H1
          exact absurd (Option.some.inj H).symm (by rw [hr_.out]; simp)
        · replace c25 := Bool.eq_false_iff.mpr c25
          subst c25
          have H1 : (if t346 = true then ((impl_TableOf.f kj6 t341 t342 t345).bind fun bt356 => ((impl_OnesOf.f kj6 t341 t342 t345).bind fun bt360 => (laws_FnDiagrams.l0 kj6 l1 t337 t338 bt356.1 bt356.2 bt360.1 bt360.2 0 t338 (t338.length : Int) 0 t341 t342 t345))) else (laws_FnDiagrams.j3 kj6 l1)) = some r := by rw [if_neg (show ¬ (false = true) by decide)] at H; exact H
          clear H
          have H := H1
          clear H1
          have HC26 := Aside0.mk H
          clear H
          go_upto_if 71 with (fail)
          go_cut [] (fun wc => ∃ (kq : Nat), Aside0 (laws_FnDiagrams.j3 kq l1 = some r) ∧ Aside0 (kq ≤ kj6) ∧ Aside0 (Kd.R k75 75 wc w.heap.size (fun k_ => some k_ ≠ ((.slice Ao18 t349.length co18) : Value).ownBlock) (.slice Ao13 t342.length co13) t342) ∧ Aside0 (Kd.R k75 75 wc w.heap.size (fun k_ => some k_ ≠ ((.slice Ao13 t342.length co13) : Value).ownBlock) (.slice Ao18 t349.length co18) t349) ∧ Aside0 (wc.heap[gb347]? = some (.cells #[.int .i64 t341, (.slice Ao13 t342.length co13), .int .i64 t345] 30 (0, 0))) ∧ Aside0 (wc.heap[gb354]? = some (.cells #[.int .i64 t348, (.slice Ao18 t349.length co18), .int .i64 t352] 30 (0, 0))) ∧ Aside0 (Below w.heap.size w wc))
          case first =>
            have H := HC26.out
            clear HC26
            by_cases c27 : t346 = true
            · subst c27
              have H1 : ((impl_TableOf.f kj6 t341 t342 t345).bind fun bt356 => ((impl_OnesOf.f kj6 t341 t342 t345).bind fun bt360 => (laws_FnDiagrams.l0 kj6 l1 t337 t338 bt356.1 bt356.2 bt360.1 bt360.2 0 t338 (t338.length : Int) 0 t341 t342 t345))) = some r := by rw [if_pos rfl] at H; exact H
              clear H
              have H := H1
              clear H1
              replace H := Option.bind_eq_some_iff.mp H
              obtain ⟨⟨t356, t359⟩, A280, H⟩ := H
              replace H : ((impl_OnesOf.f kj6 t341 t342 t345).bind fun bt360 => (laws_FnDiagrams.l0 kj6 l1 t337 t338 t356 t359 bt360.1 bt360.2 0 t338 (t338.length : Int) 0 t341 t342 t345)) = some r := H
              have A28 := Aside0.mk A280
              clear A280
              replace H := Option.bind_eq_some_iff.mp H
              obtain ⟨⟨t360, t361⟩, A290, H⟩ := H
              replace H : (laws_FnDiagrams.l0 kj6 l1 t337 t338 t356 t359 t360 t361 0 t338 (t338.length : Int) 0 t341 t342 t345) = some r := H
              have A29 := Aside0.mk A290
              clear A290
              have H' := Aside0.mk H
              clear H
              have hnb30 := NB347_354.out
              have hnc30 := NB354_347.out
              have hcz31_0 := cq_ BK347.out 0 (.int .i64 t341)
              have hcz31_1 := cq_ BK347.out 1 (.slice Ao13 t342.length co13)
              have hcz31_2 := cq_ BK347.out 2 (.int .i64 t345)
              have hfz31_0 := blk_frozen BK347.out 0
              have hfz31_1 := blk_frozen BK347.out 1
              have hfz31_2 := blk_frozen BK347.out 2
              go_wp2_with (first | ((with_reducible refine gate_callee (f := 22) rfl ?_); refine goesL_ (some 74) rfl rfl Try.func22 (by kernel_rfl) rfl #[.agg #[.int .i64 t341, .slice Ao13 t342.length co13, .int .i64 t345]] rfl (by (try simp only [List.map_toArray, List.map_cons, List.map_nil]); first | done | rfl | (simp only [List.length_drop, List.length_take]; rfl)) ?_; (with_reducible refine (impl_TableOf.calls kj6 t341 _ _ t342 t345 t356 t359 _ ?side1 ?side2 A28.out).mono ?_); (case side1 => repeat (first | exact (Kd.R_reads' HO_348001.out).2.2 | (with_reducible refine Kd.C_alloc ?_ _) | (with_reducible refine Kd.C_drewN ?_ _) | (with_reducible refine Kd.C_drew ?_))); (case side2 => exact (Kd.R_reads' HO_348001.out).2.1); rintro e w32 ⟨v357, rfl, ho0, hb⟩; refine ⟨_, rfl, ?_⟩; have n0_ := Aside0.mk (Kd.R_elder' (rq_ HO_6.out) (Kd.R_base ho0) hb); have n1_ := Aside0.mk (Kd.R_below (rq_ HO_348001.out) hb); have n2_ := Aside0.mk (Kd.R_below (rq_ HO_355001.out) hb); have n3_ := Aside0.mk (Kd.R_lower (Kd.R_new' ho0 (Kd.R_lt (rq_ HO_6.out))) (below_size (bq_))); have n4_ := Aside0.mk (blk_below (bk_ BK347.out) hb); have n5_ := Aside0.mk (blk_below (bk_ BK354.out) hb); have n6_ := Aside0.mk (below_step (bq_) hb); clear HO_6; clear HO_348001; clear HO_355001; clear BK347; clear BK354; clear HB; have HO_6 := n0_; have HO_348001 := n1_; have HO_355001 := n2_; have HO358 := n3_; have BK347 := n4_; have BK354 := n5_; have HB := n6_; clear n0_ n1_ n2_ n3_ n4_ n5_ n6_; (try clear hb); (try clear hb2); (try clear hk); (try clear hi); (try clear ho0); have hcz33_0 := cq_ BK347.out 0 (.int .i64 t341); have hcz33_1 := cq_ BK347.out 1 (.slice Ao13 t342.length co13); have hcz33_2 := cq_ BK347.out 2 (.int .i64 t345); have hfz33_0 := blk_frozen BK347.out 0; have hfz33_1 := blk_frozen BK347.out 1; have hfz33_2 := blk_frozen BK347.out 2) | ((with_reducible refine gate_callee (f := 15) rfl ?_); refine goesL_ (some 79) rfl rfl Try.func15 (by kernel_rfl) rfl #[.agg #[.int .i64 t341, .slice Ao13 t342.length co13, .int .i64 t345]] rfl (by (try simp only [List.map_toArray, List.map_cons, List.map_nil]); first | done | rfl | (simp only [List.length_drop, List.length_take]; rfl)) ?_; (with_reducible refine (impl_OnesOf.calls kj6 t341 _ _ t342 t345 t360 t361 _ ?side1 ?side2 A29.out).mono ?_); (case side1 => repeat (first | exact (Kd.R_reads' HO_348001.out).2.2 | (with_reducible refine Kd.C_alloc ?_ _) | (with_reducible refine Kd.C_drewN ?_ _) | (with_reducible refine Kd.C_drew ?_))); (case side2 => exact (Kd.R_reads' HO_348001.out).2.1); rintro e w34 ⟨rfl, hb⟩; refine ⟨_, rfl, ?_⟩; have n0_ := Aside0.mk (Kd.R_below (rq_ HO_6.out) hb); have n1_ := Aside0.mk (Kd.R_below (rq_ HO_348001.out) hb); have n2_ := Aside0.mk (Kd.R_below (rq_ HO_355001.out) hb); have n3_ := Aside0.mk (Kd.R_below (rq_ HO358.out) hb); have n4_ := Aside0.mk (blk_below (bk_ BK347.out) hb); have n5_ := Aside0.mk (blk_below (bk_ BK354.out) hb); have n6_ := Aside0.mk (below_step (bq_) hb); clear HO_6; clear HO_348001; clear HO_355001; clear HO358; clear BK347; clear BK354; clear HB; have HO_6 := n0_; have HO_348001 := n1_; have HO_355001 := n2_; have HO358 := n3_; have BK347 := n4_; have BK354 := n5_; have HB := n6_; clear n0_ n1_ n2_ n3_ n4_ n5_ n6_; (try clear hb); (try clear hb2); (try clear hk); (try clear hi)))
              go_loopg [15, 84] kj6 (fun kq v15 v84 w' => ∃ (x15_2 : Int) (x84_2 : Int), v15 = .int .i64 x15_2 ∧ v84 = .int .i64 x84_2 ∧ Aside0 (laws_FnDiagrams.l0 kq l1 t337 t338 t356 t359 t360 t361 x15_2 t338 (t338.length : Int) x84_2 t341 t342 t345 = some r) ∧ Aside0 (kq ≤ kj6) ∧ Aside0 (Kd.R Kd.bool 4 w' w.heap.size (fun k_ => some k_ ≠ (v357 : Value).ownBlock) (.slice Ao9 t338.length co9) t338) ∧ Aside0 (Kd.R Kd.bool 4 w' w.heap.size (fun k_ => some k_ ≠ ((.slice Ao9 t338.length co9) : Value).ownBlock ∧ some k_ ≠ ((.slice Ao9 t338.length co9) : Value).ownBlock) v357 t356) ∧ Aside0 (Kd.R Kd.bool 4 w' w.heap.size (fun k_ => some k_ ≠ (v357 : Value).ownBlock) (.slice Ao9 t338.length co9) t338) ∧ Aside0 (Kd.R k75 75 w' w.heap.size (fun k_ => some k_ ≠ ((.slice Ao18 t349.length co18) : Value).ownBlock) (.slice Ao13 t342.length co13) t342) ∧ Aside0 (Kd.R k75 75 w' w.heap.size (fun k_ => some k_ ≠ ((.slice Ao13 t342.length co13) : Value).ownBlock) (.slice Ao18 t349.length co18) t349) ∧ Aside0 (w'.heap[gb347]? = some (.cells #[.int .i64 t341, (.slice Ao13 t342.length co13), .int .i64 t345] 30 (0, 0))) ∧ Aside0 (w'.heap[gb354]? = some (.cells #[.int .i64 t348, (.slice Ao18 t349.length co18), .int .i64 t352] 30 (0, 0))) ∧ Aside0 (Below w.heap.size w w'))
              case atStart => exact ⟨(0), (0), (by first | rfl | (simp; done) | (simp [*]; done)), (by first | rfl | (simp; done) | (simp [*]; done)), H', ⟨Nat.le_refl _⟩, ⟨rq_ (Kd.R_mono HO_6.out (fun _ hk => hk.2))⟩, ⟨rq_ (Kd.R_mono HO358.out (fun _ hk => ⟨hk.2, hk.2⟩))⟩, ⟨rq_ (Kd.R_mono HO_6.out (fun _ hk => hk.2))⟩, ⟨rq_ HO_348001.out⟩, ⟨rq_ HO_355001.out⟩, ⟨bk_ BK347.out⟩, ⟨bk_ BK354.out⟩, ⟨bq_⟩⟩
              case round =>
                clear H'
                try clear c1
                try clear c2
                try clear p2
                try clear c3
                try clear c3b0
                try clear c4
                try clear p6
                try clear c10
                try clear c15
                try clear c16
                try clear c19
                try clear c19b0
                try clear c19b1
                try clear c19b2
                try clear c21
                try clear c22
                try clear c25
                try clear c27
                try clear c30
                try clear hcz12_0
                try clear hcz12_1
                try clear hcz12_2
                try clear hcz17_0
                try clear hcz17_1
                try clear hcz17_2
                try clear hcz22_0
                try clear hcz22_1
                try clear hcz22_2
                try clear hcz23_0
                try clear hcz23_1
                try clear hcz23_2
                try clear hcz31_0
                try clear hcz31_1
                try clear hcz31_2
                try clear hcz33_0
                try clear hcz33_1
                try clear hcz33_2
                try clear hfz12_0
                try clear hfz12_1
                try clear hfz12_2
                try clear hfz17_0
                try clear hfz17_1
                try clear hfz17_2
                try clear hfz22_0
                try clear hfz22_1
                try clear hfz22_2
                try clear hfz23_0
                try clear hfz23_1
                try clear hfz23_2
                try clear hfz31_0
                try clear hfz31_1
                try clear hfz31_2
                try clear hfz33_0
                try clear hfz33_1
                try clear hfz33_2
                try clear p2
                try clear p6
                obtain ⟨x15_2, x84_2, rfl, rfl, HA, HK2, HO_6, HO_11, HO_82, HO_348001, HO_355001, BK347, BK354, HB⟩ := hrel
                cases gk with
                | zero => exact absurd HA.out (by simp [laws_FnDiagrams.l0])
                | succ k2 =>
                  have H := HA.out
                  clear HA
                  simp only [laws_FnDiagrams.l0] at H
                  by_cases c35 : x84_2 < (t338.length : Int)
                  · rw [if_pos c35] at H
                    have c35b0 : decide (x84_2 < (t338.length : Int)) = true := decide_eq_true c35
                    clear c35
                    (first | rw [c35b0] | (simp only [i64_w, i32_w]; rw [c35b0]) | skip)
                    by_cases c36 : 0 ≤ x84_2
                    · rw [if_pos c36] at H
                      have c36b0 : decide (0 ≤ x84_2) = true := decide_eq_true c36
                      clear c36
                      by_cases c37 : x84_2 < (t338.length : Int)
                      · rw [if_pos c37] at H
                        have c37b0 : decide (x84_2 < (t338.length : Int)) = true := decide_eq_true c37
                        clear c37
                        replace H := Option.bind_eq_some_iff.mp H
                        obtain ⟨t363, A380, H⟩ := H
                        replace H : ((impl_EvalDiagram.f k2 t341 t342 t345 t363).bind fun bt366 => (if bt366.2 = true then (laws_FnDiagrams.j2 k2 l1 t337 t338 t356 t359 t360 t361 x15_2 (rdOf false t338 x84_2) t338 (t338.length : Int) x84_2 (bt366.1 != (rdOf false t338 x84_2)) t341 t342 t345) else (laws_FnDiagrams.j2 k2 l1 t337 t338 t356 t359 t360 t361 x15_2 (rdOf false t338 x84_2) t338 (t338.length : Int) x84_2 true t341 t342 t345))) = some r := H
                        have A38 := Aside0.mk A380
                        clear A380
                        replace H := Option.bind_eq_some_iff.mp H
                        obtain ⟨⟨t366, t367⟩, A390, H⟩ := H
                        replace H : (if t367 = true then (laws_FnDiagrams.j2 k2 l1 t337 t338 t356 t359 t360 t361 x15_2 (rdOf false t338 x84_2) t338 (t338.length : Int) x84_2 (t366 != (rdOf false t338 x84_2)) t341 t342 t345) else (laws_FnDiagrams.j2 k2 l1 t337 t338 t356 t359 t360 t361 x15_2 (rdOf false t338 x84_2) t338 (t338.length : Int) x84_2 true t341 t342 t345)) = some r := H
                        have A39 := Aside0.mk A390
                        clear A390
                        have HC40 := Aside0.mk H
                        clear H
                        have p362 : 0 ≤ (x84_2 : Int) := of_decide_eq_true (by first | (with_reducible assumption) | assumption)
                        have q362 : x84_2 < (t338.length : Int) := of_decide_eq_true (by first | (with_reducible assumption) | assumption)
                        obtain ⟨ad362, e362, hx362_0⟩ := Kd.at_bool (Kd.R_reads' HO_82.out).2.2 x84_2 p362 q362
                        cases e362
                        replace p362 := eq_true p362
                        replace q362 := eq_true q362
                        try go_wp2
                        have n0_ := Aside0.mk (Kd.R_drew HO_6.out)
                        have n1_ := Aside0.mk (Kd.R_drew HO_11.out)
                        have n2_ := Aside0.mk (Kd.R_drew HO_82.out)
                        have n3_ := Aside0.mk (Kd.R_drew HO_348001.out)
                        have n4_ := Aside0.mk (Kd.R_drew HO_355001.out)
                        have n5_ := Aside0.mk (blk_drew BK347.out)
                        have n6_ := Aside0.mk (blk_drew BK354.out)
                        have n7_ := Aside0.mk (below_drew1 HB.out)
                        clear HO_6
                        clear HO_11
                        clear HO_82
                        clear HO_348001
                        clear HO_355001
                        clear BK347
                        clear BK354
                        clear HB
                        have HO_6 := n0_
                        have HO_11 := n1_
                        have HO_82 := n2_
                        have HO_348001 := n3_
                        have HO_355001 := n4_
                        have BK347 := n5_
                        have BK354 := n6_
                        have HB := n7_
                        clear n0_ n1_ n2_ n3_ n4_ n5_ n6_ n7_
                        refine start_ (n := 10) (S := fun w' => w'.cell? ⟨gb347, 0, none⟩ = some (.int .i64 t341) ∧ w'.cell? ⟨gb347, 1, none⟩ = some (.slice Ao13 t342.length co13) ∧ w'.cell? ⟨gb347, 2, none⟩ = some (.int .i64 t345)) (ds := []) #[false, false, false, false, false, false, false, false, false, false] (by kernel_rfl) rfl rfl ⟨(blk_cell BK347.out 0).trans rfl, (blk_cell BK347.out 1).trans rfl, (blk_cell BK347.out 2).trans rfl⟩ (fun hHeld => ?_); refine with_tabW laws_FnDiagrams.tab15 laws_FnDiagrams.bits15 (fun HT_ HW_ => ?_)
                        generalize wr.drew = w41 at HO_6 HO_11 HO_82 HO_348001 HO_355001 BK347 BK354 HB hHeld ⊢
                        refine pure_ (i := 1) (N := some 91) (v := ?_) (a' := ?_) #[false, true, false, false, false, false, false, false, false, false] rfl rfl (any_of HT_.out (by kernel_rfl)) (fun _ _ _ h => h) (Or.inl ⟨by rfl, ?_⟩) ?_ ?_
                        rotate_left
                        · intro w'
                          go_simp
                          with_reducible rfl
                        rotate_left
                        · simp only [Act.put, List.setIfInBounds_toArray, List.set_cons_zero, List.set_cons_succ, i64_w, i32_w]
                          rfl
                        refine pure_ (i := 2) (N := some 92) (v := ?_) (a' := ?_) #[false, true, true, false, false, false, false, false, false, false] rfl rfl (any_of HT_.out (by kernel_rfl)) (fun _ _ _ h => h) (Or.inl ⟨by rfl, ?_⟩) ?_ ?_
                        rotate_left
                        · intro w'
                          go_simp
                          with_reducible rfl
                        rotate_left
                        · simp only [Act.put, List.setIfInBounds_toArray, List.set_cons_zero, List.set_cons_succ, i64_w, i32_w]
                          rfl
                        refine take_ (i := 0) (N := some 90) (v := ?_) (a' := ?_) #[true, true, true, false, false, false, false, false, false, false] rfl rfl (take_ofW HT_.out HW_.out (by kernel_rfl)) (fun _ _ _ h => h) (Or.inl ⟨by rfl, ?_⟩) hHeld ?_ ?_
                        rotate_left
                        · rintro w' ⟨s0, s1, s2⟩
                          go_simp
                          with_reducible rfl
                        rotate_left
                        · simp only [Act.put, List.setIfInBounds_toArray, List.set_cons_zero, List.set_cons_succ, i64_w, i32_w]
                          rfl
                        refine one_ (i := 3) (N := some 93) #[true, true, true, true, false, false, false, false, false, false] rfl rfl (one_of HT_.out (by kernel_rfl)) (by decide) (fun K hK => ?_)
                        refine goes_ Try.func43 (by kernel_rfl) rfl #[.int .i64 t337, .int .i64 x84_2] (by rfl) rfl rfl (by (try simp only [List.map_toArray, List.map_cons, List.map_nil]); first | done | rfl | (simp only [List.length_drop, List.length_take]; rfl)) ?_
                        with_reducible refine (laws_modelOf.calls k2 t337 x84_2 t363 _ A38.out).mono ?_
                        rintro e w42 ⟨v364, rfl, ho0, hb⟩
                        refine ⟨_, rfl, ?_⟩
                        have n0_ := Aside0.mk (Kd.R_elder' (rq_ HO_6.out) (Kd.R_base ho0) hb)
                        have n1_ := Aside0.mk (Kd.R_elder' (rq_ HO_11.out) (Kd.R_base ho0) hb)
                        have n2_ := Aside0.mk (Kd.R_elder' (rq_ HO_82.out) (Kd.R_base ho0) hb)
                        have n3_ := Aside0.mk (Kd.R_below (rq_ HO_348001.out) hb)
                        have n4_ := Aside0.mk (Kd.R_below (rq_ HO_355001.out) hb)
                        have n5_ := Aside0.mk (Kd.R_lower (Kd.R_new' (Kd.R_new' (Kd.R_new' ho0 (Kd.R_lt (rq_ HO_6.out))) (Kd.R_lt (rq_ HO_11.out))) (Kd.R_lt (rq_ HO_82.out))) (below_size (bq_)))
                        have n6_ := Aside0.mk (blk_below (bk_ BK347.out) hb)
                        have n7_ := Aside0.mk (blk_below (bk_ BK354.out) hb)
                        have n8_ := Aside0.mk (below_step (bq_) hb)
                        clear HO_6
                        clear HO_11
                        clear HO_82
                        clear HO_348001
                        clear HO_355001
                        clear BK347
                        clear BK354
                        clear HB
                        have HO_6 := n0_
                        have HO_11 := n1_
                        have HO_82 := n2_
                        have HO_348001 := n3_
                        have HO_355001 := n4_
                        have HO365 := n5_
                        have BK347 := n6_
                        have BK354 := n7_
                        have HB := n8_
                        clear n0_ n1_ n2_ n3_ n4_ n5_ n6_ n7_ n8_
                        (try clear hb)
                        (try clear hb2)
                        (try clear hk)
                        (try clear hi)
                        (try clear ho0)
                        obtain ⟨Ao43, co43, eo43⟩ := Kd.R_slice HO365.out
                        (first | subst eo43 | (injection eo43 with f1_ f2_ f3_; have f4_ := f1_.symm; have f5_ := f3_.symm; clear f1_ f2_ f3_; subst f4_; subst f5_))
                        refine hK.out _ _ ⟨(blk_cell BK347.out 0).trans rfl, (blk_cell BK347.out 1).trans rfl, (blk_cell BK347.out 2).trans rfl⟩ (fun hHeld => ?_)
                        clear hK K
                        refine norm_ (a' := ?_) ?_ ?_
                        rotate_left
                        · show Act.put _ (some 93) _ = _
                          simp only [Act.put, List.setIfInBounds_toArray, List.set_cons_zero, List.set_cons_succ, i64_w, i32_w]
                          rfl
                        refine one_ (i := 4) (N := some 94) #[true, true, true, true, true, false, false, false, false, false] rfl rfl (one_of HT_.out (by kernel_rfl)) (by decide) (fun K hK => ?_)
                        refine goes_ Try.func19 (by kernel_rfl) rfl #[.agg #[.int .i64 t341, .slice Ao13 t342.length co13, .int .i64 t345], .slice Ao43 t363.length co43] (by rfl) rfl rfl (by (try simp only [List.map_toArray, List.map_cons, List.map_nil]); first | done | rfl | (simp only [List.length_drop, List.length_take]; rfl)) ?_
                        with_reducible refine (impl_EvalDiagram.calls k2 t341 _ _ t342 t345 _ _ t363 t366 t367 _ ?side1 ?side2 ?side3 ?side4 A39.out).mono ?_
                        (case side1 => repeat (first | exact (Kd.R_reads' HO_348001.out).2.2 | (with_reducible refine Kd.C_alloc ?_ _) | (with_reducible refine Kd.C_drewN ?_ _) | (with_reducible refine Kd.C_drew ?_)))
                        (case side2 => exact (Kd.R_reads' HO_348001.out).2.1)
                        (case side3 => repeat (first | exact (Kd.R_reads' HO365.out).2.2 | (with_reducible refine Kd.C_alloc ?_ _) | (with_reducible refine Kd.C_drewN ?_ _) | (with_reducible refine Kd.C_drew ?_)))
                        (case side4 => exact (Kd.R_reads' HO365.out).2.1)
                        rintro e w44 ⟨rfl, hb⟩
                        refine ⟨_, rfl, ?_⟩
                        have n0_ := Aside0.mk (Kd.R_below (rq_ HO_6.out) hb)
                        have n1_ := Aside0.mk (Kd.R_below (rq_ HO_11.out) hb)
                        have n2_ := Aside0.mk (Kd.R_below (rq_ HO_82.out) hb)
                        have n3_ := Aside0.mk (Kd.R_below (rq_ HO_348001.out) hb)
                        have n4_ := Aside0.mk (Kd.R_below (rq_ HO_355001.out) hb)
                        have n5_ := Aside0.mk (Kd.R_below (rq_ HO365.out) hb)
                        have n6_ := Aside0.mk (blk_below (bk_ BK347.out) hb)
                        have n7_ := Aside0.mk (blk_below (bk_ BK354.out) hb)
                        have n8_ := Aside0.mk (below_step (bq_) hb)
                        clear HO_6
                        clear HO_11
                        clear HO_82
                        clear HO_348001
                        clear HO_355001
                        clear HO365
                        clear BK347
                        clear BK354
                        clear HB
                        have HO_6 := n0_
                        have HO_11 := n1_
                        have HO_82 := n2_
                        have HO_348001 := n3_
                        have HO_355001 := n4_
                        have HO365 := n5_
                        have BK347 := n6_
                        have BK354 := n7_
                        have HB := n8_
                        clear n0_ n1_ n2_ n3_ n4_ n5_ n6_ n7_ n8_
                        (try clear hb)
                        (try clear hb2)
                        (try clear hk)
                        (try clear hi)
                        refine hK.out _ _ ⟨(blk_cell BK347.out 0).trans rfl, (blk_cell BK347.out 1).trans rfl, (blk_cell BK347.out 2).trans rfl⟩ (fun hHeld => ?_)
                        clear hK K
                        refine norm_ (a' := ?_) ?_ ?_
                        rotate_left
                        · show Act.put _ (some 94) _ = _
                          simp only [Act.put, List.setIfInBounds_toArray, List.set_cons_zero, List.set_cons_succ, i64_w, i32_w]
                          rfl
                        refine pure_ (i := 5) (N := some 89) (v := ?_) (a' := ?_) #[true, true, true, true, true, true, false, false, false, false] rfl rfl (any_of HT_.out (by kernel_rfl)) (fun _ _ _ h => h) (Or.inl ⟨by rfl, ?_⟩) ?_ ?_
                        rotate_left
                        · intro w'
                          go_simp
                          with_reducible rfl
                        rotate_left
                        · simp only [Act.put, List.setIfInBounds_toArray, List.set_cons_zero, List.set_cons_succ, i64_w, i32_w]
                          rfl
                        refine pure_ (i := 6) (N := some 95) (v := ?_) (a' := ?_) #[true, true, true, true, true, true, true, false, false, false] rfl rfl (any_of HT_.out (by kernel_rfl)) (fun _ _ _ h => h) (Or.inl ⟨by rfl, ?_⟩) ?_ ?_
                        rotate_left
                        · intro w'
                          go_simp
                          with_reducible rfl
                        rotate_left
                        · simp only [Act.put, List.setIfInBounds_toArray, List.set_cons_zero, List.set_cons_succ, i64_w, i32_w]
                          rfl
                        refine pure_ (i := 7) (N := some 96) (v := ?_) (a' := ?_) #[true, true, true, true, true, true, true, true, false, false] rfl rfl (any_of HT_.out (by kernel_rfl)) (fun _ _ _ h => h) (Or.inl ⟨by rfl, ?_⟩) ?_ ?_
                        rotate_left
                        · intro w'
                          go_simp
                          with_reducible rfl
                        rotate_left
                        · simp only [Act.put, List.setIfInBounds_toArray, List.set_cons_zero, List.set_cons_succ, i64_w, i32_w]
                          rfl
                        refine pure_ (i := 8) (N := some 18) (v := ?_) (a' := ?_) #[true, true, true, true, true, true, true, true, true, false] rfl rfl (any_of HT_.out (by kernel_rfl)) (fun _ _ _ h => h) (Or.inl ⟨by rfl, ?_⟩) ?_ ?_
                        rotate_left
                        · intro w'
                          go_simp
                          with_reducible rfl
                        rotate_left
                        · simp only [Act.put, List.setIfInBounds_toArray, List.set_cons_zero, List.set_cons_succ, i64_w, i32_w]
                          rfl
                        refine pure_ (i := 9) (N := some 19) (v := ?_) (a' := ?_) #[true, true, true, true, true, true, true, true, true, true] rfl rfl (any_of HT_.out (by kernel_rfl)) (fun _ _ _ h => h) (Or.inl ⟨by rfl, ?_⟩) ?_ ?_
                        rotate_left
                        · intro w'
                          go_simp
                          with_reducible rfl
                        rotate_left
                        · simp only [Act.put, List.setIfInBounds_toArray, List.set_cons_zero, List.set_cons_succ, i64_w, i32_w]
                          rfl
                        refine done_ (done_of HT_.out (by kernel_rfl)) ?_
                        go_upto_region 16 with (fail)
                        go_cut [103] (fun v103 wc => ∃ (kq : Nat) (x103_39 : Bool), v103 = .bool x103_39 ∧ Aside0 (laws_FnDiagrams.j2 kq l1 t337 t338 t356 t359 t360 t361 x15_2 (rdOf false t338 x84_2) t338 (t338.length : Int) x84_2 x103_39 t341 t342 t345 = some r) ∧ Aside0 (kq ≤ k2) ∧ Aside0 (Kd.R Kd.bool 4 wc w.heap.size (fun k_ => some k_ ≠ (v357 : Value).ownBlock) (.slice (some ad362) t338.length co9) t338) ∧ Aside0 (Kd.R Kd.bool 4 wc w.heap.size (fun k_ => some k_ ≠ ((.slice (some ad362) t338.length co9) : Value).ownBlock ∧ some k_ ≠ ((.slice (some ad362) t338.length co9) : Value).ownBlock) v357 t356) ∧ Aside0 (Kd.R Kd.bool 4 wc w.heap.size (fun k_ => some k_ ≠ (v357 : Value).ownBlock) (.slice (some ad362) t338.length co9) t338) ∧ Aside0 (Kd.R k75 75 wc w.heap.size (fun k_ => some k_ ≠ ((.slice Ao18 t349.length co18) : Value).ownBlock) (.slice Ao13 t342.length co13) t342) ∧ Aside0 (Kd.R k75 75 wc w.heap.size (fun k_ => some k_ ≠ ((.slice Ao13 t342.length co13) : Value).ownBlock) (.slice Ao18 t349.length co18) t349) ∧ Aside0 (wc.heap[gb347]? = some (.cells #[.int .i64 t341, (.slice Ao13 t342.length co13), .int .i64 t345] 30 (0, 0))) ∧ Aside0 (wc.heap[gb354]? = some (.cells #[.int .i64 t348, (.slice Ao18 t349.length co18), .int .i64 t352] 30 (0, 0))) ∧ Aside0 (Below w.heap.size w wc))
                        case first =>
                          have H := HC40.out
                          clear HC40
                          by_cases c45 : t367 = true
                          · subst c45
                            have H1 : (laws_FnDiagrams.j2 k2 l1 t337 t338 t356 t359 t360 t361 x15_2 (rdOf false t338 x84_2) t338 (t338.length : Int) x84_2 (t366 != (rdOf false t338 x84_2)) t341 t342 t345) = some r := by rw [if_pos rfl] at H; exact H
                            clear H
                            have H := H1
                            clear H1
                            have H' := Aside0.mk H
                            clear H
                            go_wp2
                            go_meet
                            case rel => exact ⟨_, ((t366 != (rdOf false t338 x84_2))), (by first | rfl | (simp; done) | (simp [*]; done)), H', ⟨by have := HJ6.out; have := HK2.out; first | omega | exact Nat.le_refl _⟩, ⟨rq_ (Kd.R_mono HO_6.out (fun _ hk => hk.1))⟩, ⟨rq_ (Kd.R_mono HO_11.out (fun _ hk => ⟨hk.1.1, hk.1.2⟩))⟩, ⟨rq_ (Kd.R_mono HO_82.out (fun _ hk => hk.1))⟩, ⟨rq_ HO_348001.out⟩, ⟨rq_ HO_355001.out⟩, ⟨bk_ BK347.out⟩, ⟨bk_ BK354.out⟩, ⟨bq_⟩⟩
                          · replace c45 := Bool.eq_false_iff.mpr c45
                            subst c45
                            have H1 : (laws_FnDiagrams.j2 k2 l1 t337 t338 t356 t359 t360 t361 x15_2 (rdOf false t338 x84_2) t338 (t338.length : Int) x84_2 true t341 t342 t345) = some r := by rw [if_neg (show ¬ (false = true) by decide)] at H; exact H
                            clear H
                            have H := H1
                            clear H1
                            exact (laws_FnDiagrams.j2_no_12 (by rw [hr_.out] at H; exact H)).elim
                        case rest =>
                          clear HC40
                          try clear c1
                          try clear c2
                          try clear p2
                          try clear c3
                          try clear c3b0
                          try clear p3
                          try clear q3
                          try clear hx3
                          try clear c4
                          try clear p6
                          try clear c10
                          try clear c15
                          try clear c16
                          try clear c19
                          try clear c19b0
                          try clear c19b1
                          try clear c19b2
                          try clear c21
                          try clear c22
                          try clear c25
                          try clear c27
                          try clear c30
                          try clear c35
                          try clear c35b0
                          try clear c36
                          try clear c36b0
                          try clear p36
                          try clear q36
                          try clear hx36
                          try clear c37
                          try clear c37b0
                          try clear c39
                          try clear c40
                          try clear c41
                          try clear c43
                          try clear c45
                          try clear hcz12_0
                          try clear hcz12_1
                          try clear hcz12_2
                          try clear hcz17_0
                          try clear hcz17_1
                          try clear hcz17_2
                          try clear hcz22_0
                          try clear hcz22_1
                          try clear hcz22_2
                          try clear hcz23_0
                          try clear hcz23_1
                          try clear hcz23_2
                          try clear hcz31_0
                          try clear hcz31_1
                          try clear hcz31_2
                          try clear hcz33_0
                          try clear hcz33_1
                          try clear hcz33_2
                          try clear hfz12_0
                          try clear hfz12_1
                          try clear hfz12_2
                          try clear hfz17_0
                          try clear hfz17_1
                          try clear hfz17_2
                          try clear hfz22_0
                          try clear hfz22_1
                          try clear hfz22_2
                          try clear hfz23_0
                          try clear hfz23_1
                          try clear hfz23_2
                          try clear hfz31_0
                          try clear hfz31_1
                          try clear hfz31_2
                          try clear hfz33_0
                          try clear hfz33_1
                          try clear hfz33_2
                          try clear hx362_0
                          try clear p2
                          try clear p362
                          try clear p6
                          try clear q362
                          obtain ⟨kq, x103_39, rfl, HA, HJ39, HO_6, HO_11, HO_82, HO_348001, HO_355001, BK347, BK354, HB⟩ := hcut
                          cases kq with
                          | zero => exact absurd HA.out (by simp [laws_FnDiagrams.j2])
                          | succ kj39 =>
                            have H := HA.out
                            clear HA
                            simp only [laws_FnDiagrams.j2] at H
                            by_cases c46 : x103_39 = true
                            · subst c46
                              have H1 : (some false) = some r := by rw [if_pos rfl] at H; exact H
                              clear H
                              have H := H1
                              clear H1
                              exact absurd (Option.some.inj H).symm (by rw [hr_.out]; simp)
                            · replace c46 := Bool.eq_false_iff.mpr c46
                              subst c46
                              have H1 : (if (rdOf false t338 x84_2) = true then (laws_FnDiagrams.l0 kj39 l1 t337 t338 t356 t359 t360 t361 (wrap64 (x15_2 + 1)) t338 (t338.length : Int) (wrap64 (x84_2 + 1)) t341 t342 t345) else (laws_FnDiagrams.l0 kj39 l1 t337 t338 t356 t359 t360 t361 x15_2 t338 (t338.length : Int) (wrap64 (x84_2 + 1)) t341 t342 t345)) = some r := by rw [if_neg (show ¬ (false = true) by decide)] at H; exact H
                              clear H
                              have H := H1
                              clear H1
                              obtain ⟨bq47, hbq47⟩ : ∃ b_ : Bool, b_ = (rdOf false t338 x84_2) := ⟨_, rfl⟩
                              replace H : (if (bq47) = true then (laws_FnDiagrams.l0 kj39 l1 t337 t338 t356 t359 t360 t361 (wrap64 (x15_2 + 1)) t338 (t338.length : Int) (wrap64 (x84_2 + 1)) t341 t342 t345) else (laws_FnDiagrams.l0 kj39 l1 t337 t338 t356 t359 t360 t361 x15_2 t338 (t338.length : Int) (wrap64 (x84_2 + 1)) t341 t342 t345)) = some r := by rw [← hbq47] at H; exact H
                              have Nbq47 := Aside0.mk hbq47
                              clear hbq47
                              by_cases c48 : (bq47) = true
                              · rw [if_pos c48] at H
                                have c48b0 : (bq47) = true := c48
                                try rw [show (rdOf false t338 x84_2) = true from Nbq47.out.symm.trans c48b0]
                                clear c48
                                have H' := Aside0.mk H
                                clear H
                                go_wp2
                                go_roundg kj39
                                case measure => have := HJ6.out; have := HK2.out; have := HJ39.out; omega
                                case rel => exact ⟨(wrap64 (x15_2 + 1)), (wrap64 (x84_2 + 1)), (by first | rfl | (simp; done) | (simp [*]; done)), (by first | rfl | (simp; done) | (simp [*]; done)), H', ⟨by have := HJ6.out; have := HK2.out; have := HJ39.out; omega⟩, ⟨rq_ HO_6.out⟩, ⟨rq_ HO_11.out⟩, ⟨rq_ HO_82.out⟩, ⟨rq_ HO_348001.out⟩, ⟨rq_ HO_355001.out⟩, ⟨bk_ BK347.out⟩, ⟨bk_ BK354.out⟩, ⟨bq_⟩⟩
                              · rw [if_neg c48] at H
                                have c48b0 : (bq47) = false := by simpa using c48
                                try rw [show (rdOf false t338 x84_2) = false from Nbq47.out.symm.trans c48b0]
                                clear c48
                                have H' := Aside0.mk H
                                clear H
                                go_wp2
                                go_roundg kj39
                                case measure => have := HJ6.out; have := HK2.out; have := HJ39.out; omega
                                case rel => exact ⟨(x15_2), (wrap64 (x84_2 + 1)), (by first | rfl | (simp; done) | (simp [*]; done)), (by first | rfl | (simp; done) | (simp [*]; done)), H', ⟨by have := HJ6.out; have := HK2.out; have := HJ39.out; omega⟩, ⟨rq_ HO_6.out⟩, ⟨rq_ HO_11.out⟩, ⟨rq_ HO_82.out⟩, ⟨rq_ HO_348001.out⟩, ⟨rq_ HO_355001.out⟩, ⟨bk_ BK347.out⟩, ⟨bk_ BK354.out⟩, ⟨bq_⟩⟩
                      · rw [if_neg c37] at H
                        exact absurd H (by simp)
                    · rw [if_neg c36] at H
                      exact absurd H (by simp)
                  · rw [if_neg c35] at H
                    have c35b0 : decide (x84_2 < (t338.length : Int)) = false := decide_eq_false c35
                    clear c35
                    (first | rw [c35b0] | (simp only [i64_w, i32_w]; rw [c35b0]) | skip)
                    replace H := Option.bind_eq_some_iff.mp H
                    obtain ⟨⟨t368, t369, t372, t373⟩, A490, H⟩ := H
                    replace H : ((impl_NotOf.f k2 t368 t369 t372).bind fun bt375 => ((impl_GoodDiagram.f k2 t341 t342 t345).bind fun t382 => (if t382 = true then (if t359 = true then ((laws_sameBools.f k2 t356 t338).bind fun t383 => (if t383 = true then (if t361 = true then (if t360 = x15_2 then (if t373 = true then (if bt375.2.2.2 = true then ((laws_sameDiagram.f k2 bt375.1 bt375.2.1 bt375.2.2.1 t341 t342 t345).bind fun t384 => (if t384 = true then ((laws_sameDiagram.f k2 t368 t369 t372 t341 t342 t345).bind fun t385 => (if t385 = true then (some false) else (laws_FnDiagrams.j3 k2 l1))) else (some false))) else (some false)) else (some false)) else (some false)) else (some false)) else (some false))) else (some false)) else (some false)))) = some r := H
                    have A49 := Aside0.mk A490
                    clear A490
                    replace H := Option.bind_eq_some_iff.mp H
                    obtain ⟨⟨t375, t376, t379, t380⟩, A500, H⟩ := H
                    replace H : ((impl_GoodDiagram.f k2 t341 t342 t345).bind fun t382 => (if t382 = true then (if t359 = true then ((laws_sameBools.f k2 t356 t338).bind fun t383 => (if t383 = true then (if t361 = true then (if t360 = x15_2 then (if t373 = true then (if t380 = true then ((laws_sameDiagram.f k2 t375 t376 t379 t341 t342 t345).bind fun t384 => (if t384 = true then ((laws_sameDiagram.f k2 t368 t369 t372 t341 t342 t345).bind fun t385 => (if t385 = true then (some false) else (laws_FnDiagrams.j3 k2 l1))) else (some false))) else (some false)) else (some false)) else (some false)) else (some false)) else (some false))) else (some false)) else (some false))) = some r := H
                    have A50 := Aside0.mk A500
                    clear A500
                    replace H := Option.bind_eq_some_iff.mp H
                    obtain ⟨t382, A510, H⟩ := H
                    replace H : (if t382 = true then (if t359 = true then ((laws_sameBools.f k2 t356 t338).bind fun t383 => (if t383 = true then (if t361 = true then (if t360 = x15_2 then (if t373 = true then (if t380 = true then ((laws_sameDiagram.f k2 t375 t376 t379 t341 t342 t345).bind fun t384 => (if t384 = true then ((laws_sameDiagram.f k2 t368 t369 t372 t341 t342 t345).bind fun t385 => (if t385 = true then (some false) else (laws_FnDiagrams.j3 k2 l1))) else (some false))) else (some false)) else (some false)) else (some false)) else (some false)) else (some false))) else (some false)) else (some false)) = some r := H
                    have A51 := Aside0.mk A510
                    clear A510
                    by_cases c52 : t382 = true
                    · subst c52
                      have H1 : (if t359 = true then ((laws_sameBools.f k2 t356 t338).bind fun t383 => (if t383 = true then (if t361 = true then (if t360 = x15_2 then (if t373 = true then (if t380 = true then ((laws_sameDiagram.f k2 t375 t376 t379 t341 t342 t345).bind fun t384 => (if t384 = true then ((laws_sameDiagram.f k2 t368 t369 t372 t341 t342 t345).bind fun t385 => (if t385 = true then (some false) else (laws_FnDiagrams.j3 k2 l1))) else (some false))) else (some false)) else (some false)) else (some false)) else (some false)) else (some false))) else (some false)) = some r := by rw [if_pos rfl] at H; exact H
                      clear H
                      have H := H1
                      clear H1
                      by_cases c53 : t359 = true
                      · subst c53
                        have H1 : ((laws_sameBools.f k2 t356 t338).bind fun t383 => (if t383 = true then (if t361 = true then (if t360 = x15_2 then (if t373 = true then (if t380 = true then ((laws_sameDiagram.f k2 t375 t376 t379 t341 t342 t345).bind fun t384 => (if t384 = true then ((laws_sameDiagram.f k2 t368 t369 t372 t341 t342 t345).bind fun t385 => (if t385 = true then (some false) else (laws_FnDiagrams.j3 k2 l1))) else (some false))) else (some false)) else (some false)) else (some false)) else (some false)) else (some false))) = some r := by rw [if_pos rfl] at H; exact H
                        clear H
                        have H := H1
                        clear H1
                        replace H := Option.bind_eq_some_iff.mp H
                        obtain ⟨t383, A540, H⟩ := H
                        replace H : (if t383 = true then (if t361 = true then (if t360 = x15_2 then (if t373 = true then (if t380 = true then ((laws_sameDiagram.f k2 t375 t376 t379 t341 t342 t345).bind fun t384 => (if t384 = true then ((laws_sameDiagram.f k2 t368 t369 t372 t341 t342 t345).bind fun t385 => (if t385 = true then (some false) else (laws_FnDiagrams.j3 k2 l1))) else (some false))) else (some false)) else (some false)) else (some false)) else (some false)) else (some false)) = some r := H
                        have A54 := Aside0.mk A540
                        clear A540
                        by_cases c55 : t383 = true
                        · subst c55
                          have H1 : (if t361 = true then (if t360 = x15_2 then (if t373 = true then (if t380 = true then ((laws_sameDiagram.f k2 t375 t376 t379 t341 t342 t345).bind fun t384 => (if t384 = true then ((laws_sameDiagram.f k2 t368 t369 t372 t341 t342 t345).bind fun t385 => (if t385 = true then (some false) else (laws_FnDiagrams.j3 k2 l1))) else (some false))) else (some false)) else (some false)) else (some false)) else (some false)) = some r := by rw [if_pos rfl] at H; exact H
                          clear H
                          have H := H1
                          clear H1
                          by_cases c56 : t361 = true
                          · subst c56
                            have H1 : (if t360 = x15_2 then (if t373 = true then (if t380 = true then ((laws_sameDiagram.f k2 t375 t376 t379 t341 t342 t345).bind fun t384 => (if t384 = true then ((laws_sameDiagram.f k2 t368 t369 t372 t341 t342 t345).bind fun t385 => (if t385 = true then (some false) else (laws_FnDiagrams.j3 k2 l1))) else (some false))) else (some false)) else (some false)) else (some false)) = some r := by rw [if_pos rfl] at H; exact H
                            clear H
                            have H := H1
                            clear H1
                            by_cases c57 : t360 = x15_2
                            · rw [if_pos c57] at H
                              have c57b0 : (t360 == x15_2) = true := beq_iff_eq.mpr c57
                              have c57b1 : (t360 != x15_2) = false := bne_eq_false_iff_eq.mpr c57
                              clear c57
                              by_cases c58 : t373 = true
                              · subst c58
                                have H1 : (if t380 = true then ((laws_sameDiagram.f k2 t375 t376 t379 t341 t342 t345).bind fun t384 => (if t384 = true then ((laws_sameDiagram.f k2 t368 t369 t372 t341 t342 t345).bind fun t385 => (if t385 = true then (some false) else (laws_FnDiagrams.j3 k2 l1))) else (some false))) else (some false)) = some r := by rw [if_pos rfl] at H; exact H
                                clear H
                                have H := H1
                                clear H1
                                by_cases c59 : t380 = true
                                · subst c59
                                  have H1 : ((laws_sameDiagram.f k2 t375 t376 t379 t341 t342 t345).bind fun t384 => (if t384 = true then ((laws_sameDiagram.f k2 t368 t369 t372 t341 t342 t345).bind fun t385 => (if t385 = true then (some false) else (laws_FnDiagrams.j3 k2 l1))) else (some false))) = some r := by rw [if_pos rfl] at H; exact H
                                  clear H
                                  have H := H1
                                  clear H1
                                  replace H := Option.bind_eq_some_iff.mp H
                                  obtain ⟨t384, A600, H⟩ := H
                                  replace H : (if t384 = true then ((laws_sameDiagram.f k2 t368 t369 t372 t341 t342 t345).bind fun t385 => (if t385 = true then (some false) else (laws_FnDiagrams.j3 k2 l1))) else (some false)) = some r := H
                                  have A60 := Aside0.mk A600
                                  clear A600
                                  by_cases c61 : t384 = true
                                  · subst c61
                                    have H1 : ((laws_sameDiagram.f k2 t368 t369 t372 t341 t342 t345).bind fun t385 => (if t385 = true then (some false) else (laws_FnDiagrams.j3 k2 l1))) = some r := by rw [if_pos rfl] at H; exact H
                                    clear H
                                    have H := H1
                                    clear H1
                                    replace H := Option.bind_eq_some_iff.mp H
                                    obtain ⟨t385, A620, H⟩ := H
                                    replace H : (if t385 = true then (some false) else (laws_FnDiagrams.j3 k2 l1)) = some r := H
                                    have A62 := Aside0.mk A620
                                    clear A620
                                    by_cases c63 : t385 = true
                                    · subst c63
                                      have H1 : (some false) = some r := by rw [if_pos rfl] at H; exact H
                                      clear H
                                      have H := H1
                                      clear H1
                                      exact absurd (Option.some.inj H).symm (by rw [hr_.out]; simp)
                                    · replace c63 := Bool.eq_false_iff.mpr c63
                                      subst c63
                                      have H1 : (laws_FnDiagrams.j3 k2 l1) = some r := by rw [if_neg (show ¬ (false = true) by decide)] at H; exact H
                                      clear H
                                      have H := H1
                                      clear H1
                                      have H' := Aside0.mk H
                                      clear H
                                      have hnb64 := NB347_354.out
                                      have hnc64 := NB354_347.out
                                      have hcz65_0 := cq_ BK347.out 0 (.int .i64 t341)
                                      have hcz65_1 := cq_ BK347.out 1 (.slice Ao13 t342.length co13)
                                      have hcz65_2 := cq_ BK347.out 2 (.int .i64 t345)
                                      have hfz65_0 := blk_frozen BK347.out 0
                                      have hfz65_1 := blk_frozen BK347.out 1
                                      have hfz65_2 := blk_frozen BK347.out 2
                                      go_wp2_with (first | ((with_reducible refine gate_callee (f := 27) rfl ?_); refine goesL_ (some 110) rfl rfl Try.func27 (by kernel_rfl) rfl #[.agg #[.int .i64 t341, .slice Ao13 t342.length co13, .int .i64 t345]] rfl (by (try simp only [List.map_toArray, List.map_cons, List.map_nil]); first | done | rfl | (simp only [List.length_drop, List.length_take]; rfl)) ?_; (with_reducible refine (impl_NotOf.calls k2 t341 _ _ t342 t345 t368 t369 t372 true _ ?side1 ?side2 A49.out).mono ?_); (case side1 => repeat (first | exact (Kd.R_reads' HO_348001.out).2.2 | (with_reducible refine Kd.C_alloc ?_ _) | (with_reducible refine Kd.C_drewN ?_ _) | (with_reducible refine Kd.C_drew ?_))); (case side2 => exact (Kd.R_reads' HO_348001.out).2.1); rintro e w66 ⟨v370, rfl, ho0, hb⟩; refine ⟨_, rfl, ?_⟩; have n0_ := Aside0.mk (Kd.R_below (rq_ HO_6.out) hb); have n1_ := Aside0.mk (Kd.R_below (rq_ HO_11.out) hb); have n2_ := Aside0.mk (Kd.R_below (rq_ HO_82.out) hb); have n3_ := Aside0.mk (Kd.R_elder' (rq_ HO_348001.out) (Kd.R_base ho0) hb); have n4_ := Aside0.mk (Kd.R_elder' (rq_ HO_355001.out) (Kd.R_base ho0) hb); have n5_ := Aside0.mk (Kd.R_lower (Kd.R_new' (Kd.R_new' ho0 (Kd.R_lt (rq_ HO_348001.out))) (Kd.R_lt (rq_ HO_355001.out))) (below_size (bq_))); have n6_ := Aside0.mk (blk_below (bk_ BK347.out) hb); have n7_ := Aside0.mk (blk_below (bk_ BK354.out) hb); have n8_ := Aside0.mk (below_step (bq_) hb); clear HO_6; clear HO_11; clear HO_82; clear HO_348001; clear HO_355001; clear BK347; clear BK354; clear HB; have HO_6 := n0_; have HO_11 := n1_; have HO_82 := n2_; have HO_348001 := n3_; have HO_355001 := n4_; have HO371 := n5_; have BK347 := n6_; have BK354 := n7_; have HB := n8_; clear n0_ n1_ n2_ n3_ n4_ n5_ n6_ n7_ n8_; (try clear hb); (try clear hb2); (try clear hk); (try clear hi); (try clear ho0)) | ((with_reducible refine gate_dst (N := 20) rfl ?_); refine boxq_ (N := 20) (cs := #[.int .i64 0, .slice none 0 0, .int .i64 0]) (t := 30) ?_; intro gb374 hg w67 hbox hb; have n0_ := Aside0.mk (Kd.R_below (rq_ HO_6.out) hb); have n1_ := Aside0.mk (Kd.R_below (rq_ HO_11.out) hb); have n2_ := Aside0.mk (Kd.R_below (rq_ HO_82.out) hb); have n3_ := Aside0.mk (Kd.R_below (rq_ HO_348001.out) hb); have n4_ := Aside0.mk (Kd.R_below (rq_ HO_355001.out) hb); have n5_ := Aside0.mk (Kd.R_below (rq_ HO371.out) hb); have n6_ := Aside0.mk (blk_below (bk_ BK347.out) hb); have n7_ := Aside0.mk (blk_below (bk_ BK354.out) hb); have n8_ := Aside0.mk (below_step (bq_) hb); have n9_ := Aside0.mk (hbox); have n10_ := Aside0.mk ((by rw [hg]; exact (below_size (bq_)) : w.heap.size ≤ gb374)); have n11_ := Aside0.mk ((by rw [hg]; exact (below_size (bq_)) : w.heap.size ≤ gb374)); have n12_ := Aside0.mk ((by rw [hg]; exact Nat.ne_of_lt (blk_lt (bk_ BK347.out)) : gb347 ≠ gb374)); have n13_ := Aside0.mk ((by rw [hg]; exact Nat.ne_of_gt (blk_lt (bk_ BK347.out)) : gb374 ≠ gb347)); have n14_ := Aside0.mk ((by rw [hg]; exact Nat.ne_of_lt (blk_lt (bk_ BK354.out)) : gb354 ≠ gb374)); have n15_ := Aside0.mk ((by rw [hg]; exact Nat.ne_of_gt (blk_lt (bk_ BK354.out)) : gb374 ≠ gb354)); clear HO_6; clear HO_11; clear HO_82; clear HO_348001; clear HO_355001; clear HO371; clear BK347; clear BK354; clear HB; have HO_6 := n0_; have HO_11 := n1_; have HO_82 := n2_; have HO_348001 := n3_; have HO_355001 := n4_; have HO371 := n5_; have BK347 := n6_; have BK354 := n7_; have HB := n8_; have BK374 := n9_; have GW374 := n10_; have GE374 := n11_; have NB347_374 := n12_; have NB374_347 := n13_; have NB354_374 := n14_; have NB374_354 := n15_; clear n0_ n1_ n2_ n3_ n4_ n5_ n6_ n7_ n8_ n9_ n10_ n11_ n12_ n13_ n14_ n15_; clear hb hbox hg; have hnb68 := NB374_347.out; have hnc68 := NB347_374.out; have hnb69 := NB374_354.out; have hnc69 := NB354_374.out; have hcz70_0 := cq_ BK374.out 0 (.int .i64 0); have hcz70_1 := cq_ BK374.out 1 (.slice none 0 0); have hcz70_2 := cq_ BK374.out 2 (.int .i64 0); have hfz70_0 := blk_frozen BK374.out 0; have hfz70_1 := blk_frozen BK374.out 1; have hfz70_2 := blk_frozen BK374.out 2; obtain ⟨Ao71, co71, eo71⟩ := Kd.R_slice HO371.out; subst eo71) | ((with_reducible refine gate_callee (f := 27) rfl ?_); refine goesL_ (some 115) rfl rfl Try.func27 (by kernel_rfl) rfl #[.agg #[.int .i64 t368, .slice Ao71 t369.length co71, .int .i64 t372]] rfl (by (try simp only [List.map_toArray, List.map_cons, List.map_nil]); first | done | rfl | (simp only [List.length_drop, List.length_take]; rfl)) ?_; (with_reducible refine (impl_NotOf.calls k2 t368 _ _ t369 t372 t375 t376 t379 true _ ?side1 ?side2 A50.out).mono ?_); (case side1 => refine (Kd.R_reads' (e := 75) (base := w.heap.size) (ok := fun k_ => ((True ∧ some k_ ≠ (.slice Ao13 t342.length co13 : Value).ownBlock) ∧ some k_ ≠ (.slice Ao18 t349.length co18 : Value).ownBlock)) (n := t369.length) (c := co71) ?_).2.2; exact (rq_ ((Kd.R_mono (Kd.R_far (p := ⟨gb374, 2, none⟩) (Kd.R_far (p := ⟨gb374, 1, none⟩) (Kd.R_far (p := ⟨gb374, 0, none⟩) (Kd.R_types HO371.out BK374.out (by decide)) (fun _ hk => hk.2) (.int .i64 t368)) (fun _ hk => hk.2) (.slice Ao71 t369.length co71)) (fun _ hk => hk.2) (.int .i64 t372)) (fun _ h_ => h_.1))))); (case side2 => exact (Kd.R_reads' HO371.out).2.1); rintro e w72 ⟨v377, rfl, ho0, hb⟩; refine ⟨_, rfl, ?_⟩; have n0_ := Aside0.mk (Kd.R_below (rq_ ((Kd.R_mono (Kd.R_far (p := ⟨gb374, 2, none⟩) (Kd.R_far (p := ⟨gb374, 1, none⟩) (Kd.R_far (p := ⟨gb374, 0, none⟩) (Kd.R_types HO_6.out BK374.out (by decide)) (fun _ hk => hk.2) (.int .i64 t368)) (fun _ hk => hk.2) (.slice Ao71 t369.length co71)) (fun _ hk => hk.2) (.int .i64 t372)) (fun _ h_ => h_.1)))) hb); have n1_ := Aside0.mk (Kd.R_below (rq_ ((Kd.R_mono (Kd.R_far (p := ⟨gb374, 2, none⟩) (Kd.R_far (p := ⟨gb374, 1, none⟩) (Kd.R_far (p := ⟨gb374, 0, none⟩) (Kd.R_types HO_11.out BK374.out (by decide)) (fun _ hk => hk.2) (.int .i64 t368)) (fun _ hk => hk.2) (.slice Ao71 t369.length co71)) (fun _ hk => hk.2) (.int .i64 t372)) (fun _ h_ => h_.1)))) hb); have n2_ := Aside0.mk (Kd.R_below (rq_ ((Kd.R_mono (Kd.R_far (p := ⟨gb374, 2, none⟩) (Kd.R_far (p := ⟨gb374, 1, none⟩) (Kd.R_far (p := ⟨gb374, 0, none⟩) (Kd.R_types HO_82.out BK374.out (by decide)) (fun _ hk => hk.2) (.int .i64 t368)) (fun _ hk => hk.2) (.slice Ao71 t369.length co71)) (fun _ hk => hk.2) (.int .i64 t372)) (fun _ h_ => h_.1)))) hb); have n3_ := Aside0.mk (Kd.R_elder' (rq_ ((Kd.R_mono (Kd.R_far (p := ⟨gb374, 2, none⟩) (Kd.R_far (p := ⟨gb374, 1, none⟩) (Kd.R_far (p := ⟨gb374, 0, none⟩) (Kd.R_types HO_348001.out BK374.out (by decide)) (fun _ hk => hk.2) (.int .i64 t368)) (fun _ hk => hk.2) (.slice Ao71 t369.length co71)) (fun _ hk => hk.2) (.int .i64 t372)) (fun _ h_ => h_.1)))) (Kd.R_base ho0) hb); have n4_ := Aside0.mk (Kd.R_elder' (rq_ ((Kd.R_mono (Kd.R_far (p := ⟨gb374, 2, none⟩) (Kd.R_far (p := ⟨gb374, 1, none⟩) (Kd.R_far (p := ⟨gb374, 0, none⟩) (Kd.R_types HO_355001.out BK374.out (by decide)) (fun _ hk => hk.2) (.int .i64 t368)) (fun _ hk => hk.2) (.slice Ao71 t369.length co71)) (fun _ hk => hk.2) (.int .i64 t372)) (fun _ h_ => h_.1)))) (Kd.R_base ho0) hb); have n5_ := Aside0.mk (Kd.R_elder' (rq_ ((Kd.R_mono (Kd.R_far (p := ⟨gb374, 2, none⟩) (Kd.R_far (p := ⟨gb374, 1, none⟩) (Kd.R_far (p := ⟨gb374, 0, none⟩) (Kd.R_types HO371.out BK374.out (by decide)) (fun _ hk => hk.2) (.int .i64 t368)) (fun _ hk => hk.2) (.slice Ao71 t369.length co71)) (fun _ hk => hk.2) (.int .i64 t372)) (fun _ h_ => h_.1)))) (Kd.R_base ho0) hb); have n6_ := Aside0.mk (Kd.R_lower (Kd.R_new' (Kd.R_new' (Kd.R_new' ho0 (Kd.R_lt (rq_ ((Kd.R_mono (Kd.R_far (p := ⟨gb374, 2, none⟩) (Kd.R_far (p := ⟨gb374, 1, none⟩) (Kd.R_far (p := ⟨gb374, 0, none⟩) (Kd.R_types HO_348001.out BK374.out (by decide)) (fun _ hk => hk.2) (.int .i64 t368)) (fun _ hk => hk.2) (.slice Ao71 t369.length co71)) (fun _ hk => hk.2) (.int .i64 t372)) (fun _ h_ => h_.1)))))) (Kd.R_lt (rq_ ((Kd.R_mono (Kd.R_far (p := ⟨gb374, 2, none⟩) (Kd.R_far (p := ⟨gb374, 1, none⟩) (Kd.R_far (p := ⟨gb374, 0, none⟩) (Kd.R_types HO_355001.out BK374.out (by decide)) (fun _ hk => hk.2) (.int .i64 t368)) (fun _ hk => hk.2) (.slice Ao71 t369.length co71)) (fun _ hk => hk.2) (.int .i64 t372)) (fun _ h_ => h_.1)))))) (Kd.R_lt (rq_ ((Kd.R_mono (Kd.R_far (p := ⟨gb374, 2, none⟩) (Kd.R_far (p := ⟨gb374, 1, none⟩) (Kd.R_far (p := ⟨gb374, 0, none⟩) (Kd.R_types HO371.out BK374.out (by decide)) (fun _ hk => hk.2) (.int .i64 t368)) (fun _ hk => hk.2) (.slice Ao71 t369.length co71)) (fun _ hk => hk.2) (.int .i64 t372)) (fun _ h_ => h_.1)))))) (below_size (bq_))); have n7_ := Aside0.mk (blk_below (g := gb347) (o := .cells #[.int .i64 t341, .slice Ao13 t342.length co13, .int .i64 t345] 30 (0, 0)) (by (with_reducible repeat (first | refine blk_drewN ?_ _ | refine blk_drew ?_ | refine blk_alloc ?_ _)); refine blk_far ?_ NB347_374.out _; (with_reducible repeat (first | refine blk_drewN ?_ _ | refine blk_drew ?_ | refine blk_alloc ?_ _)); refine blk_far ?_ NB347_374.out _; (with_reducible repeat (first | refine blk_drewN ?_ _ | refine blk_drew ?_ | refine blk_alloc ?_ _)); refine blk_far ?_ NB347_374.out _; (with_reducible repeat (first | refine blk_drewN ?_ _ | refine blk_drew ?_ | refine blk_alloc ?_ _)); exact BK347.out) hb); have n8_ := Aside0.mk (blk_below (g := gb354) (o := .cells #[.int .i64 t348, .slice Ao18 t349.length co18, .int .i64 t352] 30 (0, 0)) (by (with_reducible repeat (first | refine blk_drewN ?_ _ | refine blk_drew ?_ | refine blk_alloc ?_ _)); refine blk_far ?_ NB354_374.out _; (with_reducible repeat (first | refine blk_drewN ?_ _ | refine blk_drew ?_ | refine blk_alloc ?_ _)); refine blk_far ?_ NB354_374.out _; (with_reducible repeat (first | refine blk_drewN ?_ _ | refine blk_drew ?_ | refine blk_alloc ?_ _)); refine blk_far ?_ NB354_374.out _; (with_reducible repeat (first | refine blk_drewN ?_ _ | refine blk_drew ?_ | refine blk_alloc ?_ _)); exact BK354.out) hb); have n9_ := Aside0.mk (blk_below (g := gb374) (o := .cells #[.int .i64 t368, .slice Ao71 t369.length co71, .int .i64 t372] 30 (0, 0)) (by (with_reducible repeat (first | refine blk_drewN ?_ _ | refine blk_drew ?_ | refine blk_alloc ?_ _)); refine blk_put (cs := #[.int .i64 t368, .slice Ao71 t369.length co71, .int .i64 0]) ?_ 2 _ rfl; (with_reducible repeat (first | refine blk_drewN ?_ _ | refine blk_drew ?_ | refine blk_alloc ?_ _)); refine blk_put (cs := #[.int .i64 t368, .slice none 0 0, .int .i64 0]) ?_ 1 _ rfl; (with_reducible repeat (first | refine blk_drewN ?_ _ | refine blk_drew ?_ | refine blk_alloc ?_ _)); refine blk_put (cs := #[.int .i64 0, .slice none 0 0, .int .i64 0]) ?_ 0 _ rfl; (with_reducible repeat (first | refine blk_drewN ?_ _ | refine blk_drew ?_ | refine blk_alloc ?_ _)); exact BK374.out) hb); have n10_ := Aside0.mk (below_step (bq_) hb); clear HO_6; clear HO_11; clear HO_82; clear HO_348001; clear HO_355001; clear HO371; clear BK347; clear BK354; clear BK374; clear HB; have HO_6 := n0_; have HO_11 := n1_; have HO_82 := n2_; have HO_348001 := n3_; have HO_355001 := n4_; have HO371 := n5_; have HO378 := n6_; have BK347 := n7_; have BK354 := n8_; have BK374 := n9_; have HB := n10_; clear n0_ n1_ n2_ n3_ n4_ n5_ n6_ n7_ n8_ n9_ n10_; (try clear hb); (try clear hb2); (try clear hk); (try clear hi); (try clear ho0)) | ((with_reducible refine gate_dst (N := 22) rfl ?_); refine boxq_ (N := 22) (cs := #[.int .i64 0, .slice none 0 0, .int .i64 0]) (t := 30) ?_; intro gb381 hg w73 hbox hb; have n0_ := Aside0.mk (Kd.R_below (rq_ HO_6.out) hb); have n1_ := Aside0.mk (Kd.R_below (rq_ HO_11.out) hb); have n2_ := Aside0.mk (Kd.R_below (rq_ HO_82.out) hb); have n3_ := Aside0.mk (Kd.R_below (rq_ HO_348001.out) hb); have n4_ := Aside0.mk (Kd.R_below (rq_ HO_355001.out) hb); have n5_ := Aside0.mk (Kd.R_below (rq_ HO371.out) hb); have n6_ := Aside0.mk (Kd.R_below (rq_ HO378.out) hb); have n7_ := Aside0.mk (blk_below (bk_ BK347.out) hb); have n8_ := Aside0.mk (blk_below (bk_ BK354.out) hb); have n9_ := Aside0.mk (blk_below (bk_ BK374.out) hb); have n10_ := Aside0.mk (below_step (bq_) hb); have n11_ := Aside0.mk (hbox); have n12_ := Aside0.mk ((by rw [hg]; exact (below_size (bq_)) : w.heap.size ≤ gb381)); have n13_ := Aside0.mk ((by rw [hg]; exact (below_size (bq_)) : w.heap.size ≤ gb381)); have n14_ := Aside0.mk ((by rw [hg]; exact Nat.ne_of_lt (blk_lt (bk_ BK347.out)) : gb347 ≠ gb381)); have n15_ := Aside0.mk ((by rw [hg]; exact Nat.ne_of_gt (blk_lt (bk_ BK347.out)) : gb381 ≠ gb347)); have n16_ := Aside0.mk ((by rw [hg]; exact Nat.ne_of_lt (blk_lt (bk_ BK354.out)) : gb354 ≠ gb381)); have n17_ := Aside0.mk ((by rw [hg]; exact Nat.ne_of_gt (blk_lt (bk_ BK354.out)) : gb381 ≠ gb354)); have n18_ := Aside0.mk ((by rw [hg]; exact Nat.ne_of_lt (blk_lt (bk_ BK374.out)) : gb374 ≠ gb381)); have n19_ := Aside0.mk ((by rw [hg]; exact Nat.ne_of_gt (blk_lt (bk_ BK374.out)) : gb381 ≠ gb374)); clear HO_6; clear HO_11; clear HO_82; clear HO_348001; clear HO_355001; clear HO371; clear HO378; clear BK347; clear BK354; clear BK374; clear HB; have HO_6 := n0_; have HO_11 := n1_; have HO_82 := n2_; have HO_348001 := n3_; have HO_355001 := n4_; have HO371 := n5_; have HO378 := n6_; have BK347 := n7_; have BK354 := n8_; have BK374 := n9_; have HB := n10_; have BK381 := n11_; have GW381 := n12_; have GE381 := n13_; have NB347_381 := n14_; have NB381_347 := n15_; have NB354_381 := n16_; have NB381_354 := n17_; have NB374_381 := n18_; have NB381_374 := n19_; clear n0_ n1_ n2_ n3_ n4_ n5_ n6_ n7_ n8_ n9_ n10_ n11_ n12_ n13_ n14_ n15_ n16_ n17_ n18_ n19_; clear hb hbox hg; have hnb74 := NB381_347.out; have hnc74 := NB347_381.out; have hnb75 := NB381_354.out; have hnc75 := NB354_381.out; have hnb76 := NB381_374.out; have hnc76 := NB374_381.out; have hcz77_0 := cq_ BK381.out 0 (.int .i64 0); have hcz77_1 := cq_ BK381.out 1 (.slice none 0 0); have hcz77_2 := cq_ BK381.out 2 (.int .i64 0); have hfz77_0 := blk_frozen BK381.out 0; have hfz77_1 := blk_frozen BK381.out 1; have hfz77_2 := blk_frozen BK381.out 2; obtain ⟨Ao78, co78, eo78⟩ := Kd.R_slice HO378.out; subst eo78; have hcz79_0 := cq_ BK347.out 0 (.int .i64 t341); have hcz79_1 := cq_ BK347.out 1 (.slice Ao13 t342.length co13); have hcz79_2 := cq_ BK347.out 2 (.int .i64 t345); have hfz79_0 := blk_frozen BK347.out 0; have hfz79_1 := blk_frozen BK347.out 1; have hfz79_2 := blk_frozen BK347.out 2) | ((with_reducible refine gate_callee (f := 44) rfl ?_); refine goesL_ (some 119) rfl rfl Try.func44 (by kernel_rfl) rfl #[.agg #[.int .i64 t341, .slice Ao13 t342.length co13, .int .i64 t345]] rfl (by (try simp only [List.map_toArray, List.map_cons, List.map_nil]); first | done | rfl | (simp only [List.length_drop, List.length_take]; rfl)) ?_; (with_reducible refine (impl_GoodDiagram.calls k2 t341 _ _ t342 t345 true _ ?side1 ?side2 A51.out).mono ?_); (case side1 => refine (Kd.R_reads' (e := 75) (base := w.heap.size) (ok := fun k_ => ((some k_ ≠ (.slice Ao18 t349.length co18 : Value).ownBlock ∧ some k_ ≠ (.slice Ao71 t369.length co71 : Value).ownBlock) ∧ some k_ ≠ (.slice Ao78 t376.length co78 : Value).ownBlock)) (n := t342.length) (c := co13) ?_).2.2; exact (rq_ ((Kd.R_mono (Kd.R_far (p := ⟨gb381, 2, none⟩) (Kd.R_far (p := ⟨gb381, 1, none⟩) (Kd.R_far (p := ⟨gb381, 0, none⟩) (Kd.R_types HO_348001.out BK381.out (by decide)) (fun _ hk => hk.2) (.int .i64 t375)) (fun _ hk => hk.2) (.slice Ao78 t376.length co78)) (fun _ hk => hk.2) (.int .i64 t379)) (fun _ h_ => h_.1))))); (case side2 => exact (Kd.R_reads' HO_348001.out).2.1); rintro e w80 ⟨rfl, hb⟩; refine ⟨_, rfl, ?_⟩; have n0_ := Aside0.mk (Kd.R_below (rq_ ((Kd.R_mono (Kd.R_far (p := ⟨gb381, 2, none⟩) (Kd.R_far (p := ⟨gb381, 1, none⟩) (Kd.R_far (p := ⟨gb381, 0, none⟩) (Kd.R_types HO_6.out BK381.out (by decide)) (fun _ hk => hk.2) (.int .i64 t375)) (fun _ hk => hk.2) (.slice Ao78 t376.length co78)) (fun _ hk => hk.2) (.int .i64 t379)) (fun _ h_ => h_.1)))) hb); have n1_ := Aside0.mk (Kd.R_below (rq_ ((Kd.R_mono (Kd.R_far (p := ⟨gb381, 2, none⟩) (Kd.R_far (p := ⟨gb381, 1, none⟩) (Kd.R_far (p := ⟨gb381, 0, none⟩) (Kd.R_types HO_11.out BK381.out (by decide)) (fun _ hk => hk.2) (.int .i64 t375)) (fun _ hk => hk.2) (.slice Ao78 t376.length co78)) (fun _ hk => hk.2) (.int .i64 t379)) (fun _ h_ => h_.1)))) hb); have n2_ := Aside0.mk (Kd.R_below (rq_ ((Kd.R_mono (Kd.R_far (p := ⟨gb381, 2, none⟩) (Kd.R_far (p := ⟨gb381, 1, none⟩) (Kd.R_far (p := ⟨gb381, 0, none⟩) (Kd.R_types HO_82.out BK381.out (by decide)) (fun _ hk => hk.2) (.int .i64 t375)) (fun _ hk => hk.2) (.slice Ao78 t376.length co78)) (fun _ hk => hk.2) (.int .i64 t379)) (fun _ h_ => h_.1)))) hb); have n3_ := Aside0.mk (Kd.R_below (rq_ ((Kd.R_mono (Kd.R_far (p := ⟨gb381, 2, none⟩) (Kd.R_far (p := ⟨gb381, 1, none⟩) (Kd.R_far (p := ⟨gb381, 0, none⟩) (Kd.R_types HO_348001.out BK381.out (by decide)) (fun _ hk => hk.2) (.int .i64 t375)) (fun _ hk => hk.2) (.slice Ao78 t376.length co78)) (fun _ hk => hk.2) (.int .i64 t379)) (fun _ h_ => h_.1)))) hb); have n4_ := Aside0.mk (Kd.R_below (rq_ ((Kd.R_mono (Kd.R_far (p := ⟨gb381, 2, none⟩) (Kd.R_far (p := ⟨gb381, 1, none⟩) (Kd.R_far (p := ⟨gb381, 0, none⟩) (Kd.R_types HO_355001.out BK381.out (by decide)) (fun _ hk => hk.2) (.int .i64 t375)) (fun _ hk => hk.2) (.slice Ao78 t376.length co78)) (fun _ hk => hk.2) (.int .i64 t379)) (fun _ h_ => h_.1)))) hb); have n5_ := Aside0.mk (Kd.R_below (rq_ ((Kd.R_mono (Kd.R_far (p := ⟨gb381, 2, none⟩) (Kd.R_far (p := ⟨gb381, 1, none⟩) (Kd.R_far (p := ⟨gb381, 0, none⟩) (Kd.R_types HO371.out BK381.out (by decide)) (fun _ hk => hk.2) (.int .i64 t375)) (fun _ hk => hk.2) (.slice Ao78 t376.length co78)) (fun _ hk => hk.2) (.int .i64 t379)) (fun _ h_ => h_.1)))) hb); have n6_ := Aside0.mk (Kd.R_below (rq_ ((Kd.R_mono (Kd.R_far (p := ⟨gb381, 2, none⟩) (Kd.R_far (p := ⟨gb381, 1, none⟩) (Kd.R_far (p := ⟨gb381, 0, none⟩) (Kd.R_types HO378.out BK381.out (by decide)) (fun _ hk => hk.2) (.int .i64 t375)) (fun _ hk => hk.2) (.slice Ao78 t376.length co78)) (fun _ hk => hk.2) (.int .i64 t379)) (fun _ h_ => h_.1)))) hb); have n7_ := Aside0.mk (blk_below (g := gb347) (o := .cells #[.int .i64 t341, .slice Ao13 t342.length co13, .int .i64 t345] 30 (0, 0)) (by (with_reducible repeat (first | refine blk_drewN ?_ _ | refine blk_drew ?_ | refine blk_alloc ?_ _)); refine blk_far ?_ NB347_381.out _; (with_reducible repeat (first | refine blk_drewN ?_ _ | refine blk_drew ?_ | refine blk_alloc ?_ _)); refine blk_far ?_ NB347_381.out _; (with_reducible repeat (first | refine blk_drewN ?_ _ | refine blk_drew ?_ | refine blk_alloc ?_ _)); refine blk_far ?_ NB347_381.out _; (with_reducible repeat (first | refine blk_drewN ?_ _ | refine blk_drew ?_ | refine blk_alloc ?_ _)); exact BK347.out) hb); have n8_ := Aside0.mk (blk_below (g := gb354) (o := .cells #[.int .i64 t348, .slice Ao18 t349.length co18, .int .i64 t352] 30 (0, 0)) (by (with_reducible repeat (first | refine blk_drewN ?_ _ | refine blk_drew ?_ | refine blk_alloc ?_ _)); refine blk_far ?_ NB354_381.out _; (with_reducible repeat (first | refine blk_drewN ?_ _ | refine blk_drew ?_ | refine blk_alloc ?_ _)); refine blk_far ?_ NB354_381.out _; (with_reducible repeat (first | refine blk_drewN ?_ _ | refine blk_drew ?_ | refine blk_alloc ?_ _)); refine blk_far ?_ NB354_381.out _; (with_reducible repeat (first | refine blk_drewN ?_ _ | refine blk_drew ?_ | refine blk_alloc ?_ _)); exact BK354.out) hb); have n9_ := Aside0.mk (blk_below (g := gb374) (o := .cells #[.int .i64 t368, .slice Ao71 t369.length co71, .int .i64 t372] 30 (0, 0)) (by (with_reducible repeat (first | refine blk_drewN ?_ _ | refine blk_drew ?_ | refine blk_alloc ?_ _)); refine blk_far ?_ NB374_381.out _; (with_reducible repeat (first | refine blk_drewN ?_ _ | refine blk_drew ?_ | refine blk_alloc ?_ _)); refine blk_far ?_ NB374_381.out _; (with_reducible repeat (first | refine blk_drewN ?_ _ | refine blk_drew ?_ | refine blk_alloc ?_ _)); refine blk_far ?_ NB374_381.out _; (with_reducible repeat (first | refine blk_drewN ?_ _ | refine blk_drew ?_ | refine blk_alloc ?_ _)); exact BK374.out) hb); have n10_ := Aside0.mk (blk_below (g := gb381) (o := .cells #[.int .i64 t375, .slice Ao78 t376.length co78, .int .i64 t379] 30 (0, 0)) (by (with_reducible repeat (first | refine blk_drewN ?_ _ | refine blk_drew ?_ | refine blk_alloc ?_ _)); refine blk_put (cs := #[.int .i64 t375, .slice Ao78 t376.length co78, .int .i64 0]) ?_ 2 _ rfl; (with_reducible repeat (first | refine blk_drewN ?_ _ | refine blk_drew ?_ | refine blk_alloc ?_ _)); refine blk_put (cs := #[.int .i64 t375, .slice none 0 0, .int .i64 0]) ?_ 1 _ rfl; (with_reducible repeat (first | refine blk_drewN ?_ _ | refine blk_drew ?_ | refine blk_alloc ?_ _)); refine blk_put (cs := #[.int .i64 0, .slice none 0 0, .int .i64 0]) ?_ 0 _ rfl; (with_reducible repeat (first | refine blk_drewN ?_ _ | refine blk_drew ?_ | refine blk_alloc ?_ _)); exact BK381.out) hb); have n11_ := Aside0.mk (below_step (bq_) hb); clear HO_6; clear HO_11; clear HO_82; clear HO_348001; clear HO_355001; clear HO371; clear HO378; clear BK347; clear BK354; clear BK374; clear BK381; clear HB; have HO_6 := n0_; have HO_11 := n1_; have HO_82 := n2_; have HO_348001 := n3_; have HO_355001 := n4_; have HO371 := n5_; have HO378 := n6_; have BK347 := n7_; have BK354 := n8_; have BK374 := n9_; have BK381 := n10_; have HB := n11_; clear n0_ n1_ n2_ n3_ n4_ n5_ n6_ n7_ n8_ n9_ n10_ n11_; (try clear hb); (try clear hb2); (try clear hk); (try clear hi); obtain ⟨Ao81, co81, eo81⟩ := Kd.R_slice HO_11.out; subst eo81) | (go_at_call 45; (with_reducible refine (laws_sameBools.calls k2 _ _ t356 _ _ t338 true _ ?side1 ?side2 ?side3 ?side4 A54.out).mono ?_); (case side1 => repeat (first | exact (Kd.R_reads' HO_11.out).2.2 | (with_reducible refine Kd.C_alloc ?_ _) | (with_reducible refine Kd.C_drewN ?_ _) | (with_reducible refine Kd.C_drew ?_))); (case side2 => exact (Kd.R_reads' HO_11.out).2.1); (case side3 => repeat (first | exact (Kd.R_reads' HO_6.out).2.2 | (with_reducible refine Kd.C_alloc ?_ _) | (with_reducible refine Kd.C_drewN ?_ _) | (with_reducible refine Kd.C_drew ?_))); (case side4 => exact (Kd.R_reads' HO_6.out).2.1); rintro e w' ⟨rfl, ⟨nd, rfl⟩⟩; have hcz82_0 := cq_ BK381.out 0 (.int .i64 t375); have hcz82_1 := cq_ BK381.out 1 (.slice Ao78 t376.length co78); have hcz82_2 := cq_ BK381.out 2 (.int .i64 t379); have hfz82_0 := blk_frozen BK381.out 0; have hfz82_1 := blk_frozen BK381.out 1; have hfz82_2 := blk_frozen BK381.out 2; have hcz83_0 := cq_ BK347.out 0 (.int .i64 t341); have hcz83_1 := cq_ BK347.out 1 (.slice Ao13 t342.length co13); have hcz83_2 := cq_ BK347.out 2 (.int .i64 t345); have hfz83_0 := blk_frozen BK347.out 0; have hfz83_1 := blk_frozen BK347.out 1; have hfz83_2 := blk_frozen BK347.out 2) | (go_at_call 42; (with_reducible refine (laws_sameDiagram.calls k2 t375 _ _ t376 t379 t341 _ _ t342 t345 true _ ?side1 ?side2 ?side3 ?side4 A60.out).mono ?_); (case side1 => repeat (first | exact (Kd.R_reads' HO378.out).2.2 | (with_reducible refine Kd.C_alloc ?_ _) | (with_reducible refine Kd.C_drewN ?_ _) | (with_reducible refine Kd.C_drew ?_))); (case side2 => exact (Kd.R_reads' HO378.out).2.1); (case side3 => repeat (first | exact (Kd.R_reads' HO_348001.out).2.2 | (with_reducible refine Kd.C_alloc ?_ _) | (with_reducible refine Kd.C_drewN ?_ _) | (with_reducible refine Kd.C_drew ?_))); (case side4 => exact (Kd.R_reads' HO_348001.out).2.1); rintro e w84 ⟨rfl, hb⟩; have n0_ := Aside0.mk (Kd.R_below (rq_ HO_6.out) hb); have n1_ := Aside0.mk (Kd.R_below (rq_ HO_11.out) hb); have n2_ := Aside0.mk (Kd.R_below (rq_ HO_82.out) hb); have n3_ := Aside0.mk (Kd.R_below (rq_ HO_348001.out) hb); have n4_ := Aside0.mk (Kd.R_below (rq_ HO_355001.out) hb); have n5_ := Aside0.mk (Kd.R_below (rq_ HO371.out) hb); have n6_ := Aside0.mk (Kd.R_below (rq_ HO378.out) hb); have n7_ := Aside0.mk (blk_below (bk_ BK347.out) hb); have n8_ := Aside0.mk (blk_below (bk_ BK354.out) hb); have n9_ := Aside0.mk (blk_below (bk_ BK374.out) hb); have n10_ := Aside0.mk (blk_below (bk_ BK381.out) hb); have n11_ := Aside0.mk (below_step (bq_) hb); clear HO_6; clear HO_11; clear HO_82; clear HO_348001; clear HO_355001; clear HO371; clear HO378; clear BK347; clear BK354; clear BK374; clear BK381; clear HB; have HO_6 := n0_; have HO_11 := n1_; have HO_82 := n2_; have HO_348001 := n3_; have HO_355001 := n4_; have HO371 := n5_; have HO378 := n6_; have BK347 := n7_; have BK354 := n8_; have BK374 := n9_; have BK381 := n10_; have HB := n11_; clear n0_ n1_ n2_ n3_ n4_ n5_ n6_ n7_ n8_ n9_ n10_ n11_; (try clear hb); (try clear hb2); (try clear hk); (try clear hi); have hcz85_0 := cq_ BK374.out 0 (.int .i64 t368); have hcz85_1 := cq_ BK374.out 1 (.slice Ao71 t369.length co71); have hcz85_2 := cq_ BK374.out 2 (.int .i64 t372); have hfz85_0 := blk_frozen BK374.out 0; have hfz85_1 := blk_frozen BK374.out 1; have hfz85_2 := blk_frozen BK374.out 2; have hcz86_0 := cq_ BK347.out 0 (.int .i64 t341); have hcz86_1 := cq_ BK347.out 1 (.slice Ao13 t342.length co13); have hcz86_2 := cq_ BK347.out 2 (.int .i64 t345); have hfz86_0 := blk_frozen BK347.out 0; have hfz86_1 := blk_frozen BK347.out 1; have hfz86_2 := blk_frozen BK347.out 2) | (go_at_call 42; (with_reducible refine (laws_sameDiagram.calls k2 t368 _ _ t369 t372 t341 _ _ t342 t345 false _ ?side1 ?side2 ?side3 ?side4 A62.out).mono ?_); (case side1 => repeat (first | exact (Kd.R_reads' HO371.out).2.2 | (with_reducible refine Kd.C_alloc ?_ _) | (with_reducible refine Kd.C_drewN ?_ _) | (with_reducible refine Kd.C_drew ?_))); (case side2 => exact (Kd.R_reads' HO371.out).2.1); (case side3 => repeat (first | exact (Kd.R_reads' HO_348001.out).2.2 | (with_reducible refine Kd.C_alloc ?_ _) | (with_reducible refine Kd.C_drewN ?_ _) | (with_reducible refine Kd.C_drew ?_))); (case side4 => exact (Kd.R_reads' HO_348001.out).2.1); rintro e w87 ⟨rfl, hb⟩; have n0_ := Aside0.mk (Kd.R_below (rq_ HO_6.out) hb); have n1_ := Aside0.mk (Kd.R_below (rq_ HO_11.out) hb); have n2_ := Aside0.mk (Kd.R_below (rq_ HO_82.out) hb); have n3_ := Aside0.mk (Kd.R_below (rq_ HO_348001.out) hb); have n4_ := Aside0.mk (Kd.R_below (rq_ HO_355001.out) hb); have n5_ := Aside0.mk (Kd.R_below (rq_ HO371.out) hb); have n6_ := Aside0.mk (Kd.R_below (rq_ HO378.out) hb); have n7_ := Aside0.mk (blk_below (bk_ BK347.out) hb); have n8_ := Aside0.mk (blk_below (bk_ BK354.out) hb); have n9_ := Aside0.mk (blk_below (bk_ BK374.out) hb); have n10_ := Aside0.mk (blk_below (bk_ BK381.out) hb); have n11_ := Aside0.mk (below_step (bq_) hb); clear HO_6; clear HO_11; clear HO_82; clear HO_348001; clear HO_355001; clear HO371; clear HO378; clear BK347; clear BK354; clear BK374; clear BK381; clear HB; have HO_6 := n0_; have HO_11 := n1_; have HO_82 := n2_; have HO_348001 := n3_; have HO_355001 := n4_; have HO371 := n5_; have HO378 := n6_; have BK347 := n7_; have BK354 := n8_; have BK374 := n9_; have BK381 := n10_; have HB := n11_; clear n0_ n1_ n2_ n3_ n4_ n5_ n6_ n7_ n8_ n9_ n10_ n11_; (try clear hb); (try clear hb2); (try clear hk); (try clear hi)))
                                      go_meet
                                      case rel => exact ⟨_, H', ⟨by have := HJ6.out; have := HK2.out; first | omega | exact Nat.le_refl _⟩, ⟨rq_ (Kd.R_mono HO_348001.out (fun _ hk => hk.1.1))⟩, ⟨rq_ (Kd.R_mono HO_355001.out (fun _ hk => hk.1.1))⟩, ⟨bk_ BK347.out⟩, ⟨bk_ BK354.out⟩, ⟨bq_⟩⟩
                                  · replace c61 := Bool.eq_false_iff.mpr c61
                                    subst c61
                                    have H1 : (some false) = some r := by rw [if_neg (show ¬ (false = true) by decide)] at H; exact H
                                    clear H
                                    have H := H1
                                    clear H1
                                    exact absurd (Option.some.inj H).symm (by rw [hr_.out]; simp)
                                · replace c59 := Bool.eq_false_iff.mpr c59
                                  subst c59
                                  have H1 : (some false) = some r := by rw [if_neg (show ¬ (false = true) by decide)] at H; exact H
                                  clear H
                                  have H := H1
                                  clear H1
                                  exact absurd (Option.some.inj H).symm (by rw [hr_.out]; simp)
                              · replace c58 := Bool.eq_false_iff.mpr c58
                                subst c58
                                have H1 : (some false) = some r := by rw [if_neg (show ¬ (false = true) by decide)] at H; exact H
                                clear H
                                have H := H1
                                clear H1
                                exact absurd (Option.some.inj H).symm (by rw [hr_.out]; simp)
                            · rw [if_neg c57] at H
                              have c57b0 : (t360 == x15_2) = false := beq_eq_false_iff_ne.mpr c57
                              have c57b1 : (t360 != x15_2) = true := bne_iff_ne.mpr c57
                              exact absurd (Option.some.inj H).symm (by rw [hr_.out]; simp)
                          · replace c56 := Bool.eq_false_iff.mpr c56
                            subst c56
                            have H1 : (some false) = some r := by rw [if_neg (show ¬ (false = true) by decide)] at H; exact H
                            clear H
                            have H := H1
                            clear H1
                            exact absurd (Option.some.inj H).symm (by rw [hr_.out]; simp)
                        · replace c55 := Bool.eq_false_iff.mpr c55
                          subst c55
                          have H1 : (some false) = some r := by rw [if_neg (show ¬ (false = true) by decide)] at H; exact H
                          clear H
                          have H := H1
                          clear H1
                          exact absurd (Option.some.inj H).symm (by rw [hr_.out]; simp)
                      · replace c53 := Bool.eq_false_iff.mpr c53
                        subst c53
                        have H1 : (some false) = some r := by rw [if_neg (show ¬ (false = true) by decide)] at H; exact H
                        clear H
                        have H := H1
                        clear H1
                        exact absurd (Option.some.inj H).symm (by rw [hr_.out]; simp)
                    · replace c52 := Bool.eq_false_iff.mpr c52
                      subst c52
                      have H1 : (some false) = some r := by rw [if_neg (show ¬ (false = true) by decide)] at H; exact H
                      clear H
                      have H := H1
                      clear H1
                      exact absurd (Option.some.inj H).symm (by rw [hr_.out]; simp)
            · replace c27 := Bool.eq_false_iff.mpr c27
              subst c27
              have H1 : (laws_FnDiagrams.j3 kj6 l1) = some r := by rw [if_neg (show ¬ (false = true) by decide)] at H; exact H
              clear H
              have H := H1
              clear H1
              have H' := Aside0.mk H
              clear H
              go_wp2
              go_meet
              case rel => exact ⟨_, H', ⟨by have := HJ6.out; first | omega | exact Nat.le_refl _⟩, ⟨rq_ HO_348001.out⟩, ⟨rq_ HO_355001.out⟩, ⟨bk_ BK347.out⟩, ⟨bk_ BK354.out⟩, ⟨bq_⟩⟩
          case rest =>
            clear HC26
            try clear c1
            try clear c2
            try clear p2
            try clear c3
            try clear c3b0
            try clear p3
            try clear q3
            try clear hx3
            try clear c4
            try clear q4
            try clear c5
            try clear c6
            try clear p6
            try clear c7
            try clear c10
            try clear c15
            try clear c16
            try clear c19
            try clear c19b0
            try clear c19b1
            try clear c19b2
            try clear c21
            try clear c22
            try clear c25
            try clear c27
            try clear c30
            try clear c35
            try clear c35b0
            try clear c36
            try clear c36b0
            try clear p36
            try clear q36
            try clear hx36
            try clear c37
            try clear c37b0
            try clear c39
            try clear c40
            try clear c41
            try clear c43
            try clear c44
            try clear c45
            try clear c46
            try clear q47
            try clear c48
            try clear c48b0
            try clear c52
            try clear c53
            try clear c55
            try clear c56
            try clear c57
            try clear c57b0
            try clear c57b1
            try clear c58
            try clear c59
            try clear c61
            try clear c63
            try clear c64
            try clear p64
            try clear c68
            try clear c69
            try clear c74
            try clear c75
            try clear c76
            try clear hcz12_0
            try clear hcz12_1
            try clear hcz12_2
            try clear hcz17_0
            try clear hcz17_1
            try clear hcz17_2
            try clear hcz22_0
            try clear hcz22_1
            try clear hcz22_2
            try clear hcz23_0
            try clear hcz23_1
            try clear hcz23_2
            try clear hcz31_0
            try clear hcz31_1
            try clear hcz31_2
            try clear hcz33_0
            try clear hcz33_1
            try clear hcz33_2
            try clear hcz65_0
            try clear hcz65_1
            try clear hcz65_2
            try clear hcz70_0
            try clear hcz70_1
            try clear hcz70_2
            try clear hcz77_0
            try clear hcz77_1
            try clear hcz77_2
            try clear hcz79_0
            try clear hcz79_1
            try clear hcz79_2
            try clear hcz82_0
            try clear hcz82_1
            try clear hcz82_2
            try clear hcz83_0
            try clear hcz83_1
            try clear hcz83_2
            try clear hcz85_0
            try clear hcz85_1
            try clear hcz85_2
            try clear hcz86_0
            try clear hcz86_1
            try clear hcz86_2
            try clear hfz12_0
            try clear hfz12_1
            try clear hfz12_2
            try clear hfz17_0
            try clear hfz17_1
            try clear hfz17_2
            try clear hfz22_0
            try clear hfz22_1
            try clear hfz22_2
            try clear hfz23_0
            try clear hfz23_1
            try clear hfz23_2
            try clear hfz31_0
            try clear hfz31_1
            try clear hfz31_2
            try clear hfz33_0
            try clear hfz33_1
            try clear hfz33_2
            try clear hfz65_0
            try clear hfz65_1
            try clear hfz65_2
            try clear hfz70_0
            try clear hfz70_1
            try clear hfz70_2
            try clear hfz77_0
            try clear hfz77_1
            try clear hfz77_2
            try clear hfz79_0
            try clear hfz79_1
            try clear hfz79_2
            try clear hfz82_0
            try clear hfz82_1
            try clear hfz82_2
            try clear hfz83_0
            try clear hfz83_1
            try clear hfz83_2
            try clear hfz85_0
            try clear hfz85_1
            try clear hfz85_2
            try clear hfz86_0
            try clear hfz86_1
            try clear hfz86_2
            try clear hx362_0
            try clear p2
            try clear p3
            try clear p36
            try clear p362
            try clear p6
            try clear q3
            try clear q36
            try clear q362
            obtain ⟨kq, HA, HJ25, HO_348001, HO_355001, BK347, BK354, HB⟩ := hcut
            cases kq with
            | zero => exact absurd HA.out (by simp [laws_FnDiagrams.j3])
            | succ kj25 =>
              have H := HA.out
              clear HA
              simp only [laws_FnDiagrams.j3] at H
              replace H := Option.bind_eq_some_iff.mp H
              obtain ⟨⟨t386, t387, t390, t391⟩, A880, H⟩ := H
              replace H : ((impl_EvalDiagram.f kj25 t386 t387 t390 t391).bind fun bt395 => ((spec_EvalDiagram.f kj25 t386 t387 t390 t391).bind fun bt397 => ((spec_DrawOnesOf.f kj25 l1).bind fun bt399 => ((impl_OnesOf.f kj25 bt399.1 bt399.2.1 bt399.2.2).bind fun bt405 => ((spec_OnesOf.f kj25 bt399.1 bt399.2.1 bt399.2.2).bind fun bt407 => ((impl_TableOf.f kj25 bt399.1 bt399.2.1 bt399.2.2).bind fun bt409 => ((spec_TableOf.f kj25 bt399.1 bt399.2.1 bt399.2.2).bind fun bt413 => (if (bt395.2 == bt397.2) = true then (if (bt395.1 == bt397.1) = true then (if (bt405.2 == bt407.2) = true then (if bt405.1 = bt407.1 then (if (bt409.2 == bt413.2) = true then ((laws_sameBools.f kj25 bt409.1 bt413.1).bind fun t417 => (if t417 = true then ((impl_GoodDiagram.f kj25 bt399.1 bt399.2.1 bt399.2.2).bind fun t418 => ((spec_GoodDiagram.f kj25 bt399.1 bt399.2.1 bt399.2.2).bind fun t419 => (some (t418 == t419)))) else (some false))) else (some false)) else (some false)) else (some false)) else (some false)) else (some false))))))))) = some r := H
              have A88 := Aside0.mk A880
              clear A880
              replace H := Option.bind_eq_some_iff.mp H
              obtain ⟨⟨t395, t396⟩, A890, H⟩ := H
              replace H : ((spec_EvalDiagram.f kj25 t386 t387 t390 t391).bind fun bt397 => ((spec_DrawOnesOf.f kj25 l1).bind fun bt399 => ((impl_OnesOf.f kj25 bt399.1 bt399.2.1 bt399.2.2).bind fun bt405 => ((spec_OnesOf.f kj25 bt399.1 bt399.2.1 bt399.2.2).bind fun bt407 => ((impl_TableOf.f kj25 bt399.1 bt399.2.1 bt399.2.2).bind fun bt409 => ((spec_TableOf.f kj25 bt399.1 bt399.2.1 bt399.2.2).bind fun bt413 => (if (t396 == bt397.2) = true then (if (t395 == bt397.1) = true then (if (bt405.2 == bt407.2) = true then (if bt405.1 = bt407.1 then (if (bt409.2 == bt413.2) = true then ((laws_sameBools.f kj25 bt409.1 bt413.1).bind fun t417 => (if t417 = true then ((impl_GoodDiagram.f kj25 bt399.1 bt399.2.1 bt399.2.2).bind fun t418 => ((spec_GoodDiagram.f kj25 bt399.1 bt399.2.1 bt399.2.2).bind fun t419 => (some (t418 == t419)))) else (some false))) else (some false)) else (some false)) else (some false)) else (some false)) else (some false)))))))) = some r := H
              have A89 := Aside0.mk A890
              clear A890
              replace H := Option.bind_eq_some_iff.mp H
              obtain ⟨⟨t397, t398⟩, A900, H⟩ := H
              replace H : ((spec_DrawOnesOf.f kj25 l1).bind fun bt399 => ((impl_OnesOf.f kj25 bt399.1 bt399.2.1 bt399.2.2).bind fun bt405 => ((spec_OnesOf.f kj25 bt399.1 bt399.2.1 bt399.2.2).bind fun bt407 => ((impl_TableOf.f kj25 bt399.1 bt399.2.1 bt399.2.2).bind fun bt409 => ((spec_TableOf.f kj25 bt399.1 bt399.2.1 bt399.2.2).bind fun bt413 => (if (t396 == t398) = true then (if (t395 == t397) = true then (if (bt405.2 == bt407.2) = true then (if bt405.1 = bt407.1 then (if (bt409.2 == bt413.2) = true then ((laws_sameBools.f kj25 bt409.1 bt413.1).bind fun t417 => (if t417 = true then ((impl_GoodDiagram.f kj25 bt399.1 bt399.2.1 bt399.2.2).bind fun t418 => ((spec_GoodDiagram.f kj25 bt399.1 bt399.2.1 bt399.2.2).bind fun t419 => (some (t418 == t419)))) else (some false))) else (some false)) else (some false)) else (some false)) else (some false)) else (some false))))))) = some r := H
              have A90 := Aside0.mk A900
              clear A900
              replace H := Option.bind_eq_some_iff.mp H
              obtain ⟨⟨t399, t400, t403⟩, A910, H⟩ := H
              replace H : ((impl_OnesOf.f kj25 t399 t400 t403).bind fun bt405 => ((spec_OnesOf.f kj25 t399 t400 t403).bind fun bt407 => ((impl_TableOf.f kj25 t399 t400 t403).bind fun bt409 => ((spec_TableOf.f kj25 t399 t400 t403).bind fun bt413 => (if (t396 == t398) = true then (if (t395 == t397) = true then (if (bt405.2 == bt407.2) = true then (if bt405.1 = bt407.1 then (if (bt409.2 == bt413.2) = true then ((laws_sameBools.f kj25 bt409.1 bt413.1).bind fun t417 => (if t417 = true then ((impl_GoodDiagram.f kj25 t399 t400 t403).bind fun t418 => ((spec_GoodDiagram.f kj25 t399 t400 t403).bind fun t419 => (some (t418 == t419)))) else (some false))) else (some false)) else (some false)) else (some false)) else (some false)) else (some false)))))) = some r := H
              have A91 := Aside0.mk A910
              clear A910
              replace H := Option.bind_eq_some_iff.mp H
              obtain ⟨⟨t405, t406⟩, A920, H⟩ := H
              replace H : ((spec_OnesOf.f kj25 t399 t400 t403).bind fun bt407 => ((impl_TableOf.f kj25 t399 t400 t403).bind fun bt409 => ((spec_TableOf.f kj25 t399 t400 t403).bind fun bt413 => (if (t396 == t398) = true then (if (t395 == t397) = true then (if (t406 == bt407.2) = true then (if t405 = bt407.1 then (if (bt409.2 == bt413.2) = true then ((laws_sameBools.f kj25 bt409.1 bt413.1).bind fun t417 => (if t417 = true then ((impl_GoodDiagram.f kj25 t399 t400 t403).bind fun t418 => ((spec_GoodDiagram.f kj25 t399 t400 t403).bind fun t419 => (some (t418 == t419)))) else (some false))) else (some false)) else (some false)) else (some false)) else (some false)) else (some false))))) = some r := H
              have A92 := Aside0.mk A920
              clear A920
              replace H := Option.bind_eq_some_iff.mp H
              obtain ⟨⟨t407, t408⟩, A930, H⟩ := H
              replace H : ((impl_TableOf.f kj25 t399 t400 t403).bind fun bt409 => ((spec_TableOf.f kj25 t399 t400 t403).bind fun bt413 => (if (t396 == t398) = true then (if (t395 == t397) = true then (if (t406 == t408) = true then (if t405 = t407 then (if (bt409.2 == bt413.2) = true then ((laws_sameBools.f kj25 bt409.1 bt413.1).bind fun t417 => (if t417 = true then ((impl_GoodDiagram.f kj25 t399 t400 t403).bind fun t418 => ((spec_GoodDiagram.f kj25 t399 t400 t403).bind fun t419 => (some (t418 == t419)))) else (some false))) else (some false)) else (some false)) else (some false)) else (some false)) else (some false)))) = some r := H
              have A93 := Aside0.mk A930
              clear A930
              replace H := Option.bind_eq_some_iff.mp H
              obtain ⟨⟨t409, t412⟩, A940, H⟩ := H
              replace H : ((spec_TableOf.f kj25 t399 t400 t403).bind fun bt413 => (if (t396 == t398) = true then (if (t395 == t397) = true then (if (t406 == t408) = true then (if t405 = t407 then (if (t412 == bt413.2) = true then ((laws_sameBools.f kj25 t409 bt413.1).bind fun t417 => (if t417 = true then ((impl_GoodDiagram.f kj25 t399 t400 t403).bind fun t418 => ((spec_GoodDiagram.f kj25 t399 t400 t403).bind fun t419 => (some (t418 == t419)))) else (some false))) else (some false)) else (some false)) else (some false)) else (some false)) else (some false))) = some r := H
              have A94 := Aside0.mk A940
              clear A940
              replace H := Option.bind_eq_some_iff.mp H
              obtain ⟨⟨t413, t416⟩, A950, H⟩ := H
              replace H : (if (t396 == t398) = true then (if (t395 == t397) = true then (if (t406 == t408) = true then (if t405 = t407 then (if (t412 == t416) = true then ((laws_sameBools.f kj25 t409 t413).bind fun t417 => (if t417 = true then ((impl_GoodDiagram.f kj25 t399 t400 t403).bind fun t418 => ((spec_GoodDiagram.f kj25 t399 t400 t403).bind fun t419 => (some (t418 == t419)))) else (some false))) else (some false)) else (some false)) else (some false)) else (some false)) else (some false)) = some r := H
              have A95 := Aside0.mk A950
              clear A950
              by_cases c96 : (t396 == t398) = true
              · rw [if_pos c96] at H
                have c96b0 : (t396 == t398) = true := c96
                (try (have c96b1 : decide (t396 = t398) = true := by simpa using c96))
                (try (have c96b2 : (t396 == t398) = true := by simpa using c96))
                clear c96
                by_cases c97 : (t395 == t397) = true
                · rw [if_pos c97] at H
                  have c97b0 : (t395 == t397) = true := c97
                  (try (have c97b1 : decide (t395 = t397) = true := by simpa using c97))
                  (try (have c97b2 : (t395 == t397) = true := by simpa using c97))
                  clear c97
                  by_cases c98 : (t406 == t408) = true
                  · rw [if_pos c98] at H
                    have c98b0 : (t406 == t408) = true := c98
                    (try (have c98b1 : decide (t406 = t408) = true := by simpa using c98))
                    (try (have c98b2 : (t406 == t408) = true := by simpa using c98))
                    clear c98
                    by_cases c99 : t405 = t407
                    · rw [if_pos c99] at H
                      have c99b0 : (t405 == t407) = true := beq_iff_eq.mpr c99
                      have c99b1 : (t405 != t407) = false := bne_eq_false_iff_eq.mpr c99
                      clear c99
                      by_cases c100 : (t412 == t416) = true
                      · rw [if_pos c100] at H
                        have c100b0 : (t412 == t416) = true := c100
                        (try (have c100b1 : decide (t412 = t416) = true := by simpa using c100))
                        (try (have c100b2 : (t412 == t416) = true := by simpa using c100))
                        clear c100
                        replace H := Option.bind_eq_some_iff.mp H
                        obtain ⟨t417, A1010, H⟩ := H
                        replace H : (if t417 = true then ((impl_GoodDiagram.f kj25 t399 t400 t403).bind fun t418 => ((spec_GoodDiagram.f kj25 t399 t400 t403).bind fun t419 => (some (t418 == t419)))) else (some false)) = some r := H
                        have A101 := Aside0.mk A1010
                        clear A1010
                        by_cases c102 : t417 = true
                        · subst c102
                          have H1 : ((impl_GoodDiagram.f kj25 t399 t400 t403).bind fun t418 => ((spec_GoodDiagram.f kj25 t399 t400 t403).bind fun t419 => (some (t418 == t419)))) = some r := by rw [if_pos rfl] at H; exact H
                          clear H
                          have H := H1
                          clear H1
                          replace H := Option.bind_eq_some_iff.mp H
                          obtain ⟨t418, A1030, H⟩ := H
                          replace H : ((spec_GoodDiagram.f kj25 t399 t400 t403).bind fun t419 => (some (t418 == t419))) = some r := H
                          have A103 := Aside0.mk A1030
                          clear A1030
                          replace H := Option.bind_eq_some_iff.mp H
                          obtain ⟨t419, A1040, H⟩ := H
                          replace H : (some (t418 == t419)) = some r := H
                          have A104 := Aside0.mk A1040
                          clear A1040
                          obtain rfl := Option.some.inj H
                          try go_wp2_with (first | ((with_reducible refine gate_callee (f := 46) rfl ?_); refine goesL_ (some 161) rfl rfl Try.func46 (by kernel_rfl) rfl #[.slice A1 l1.length c1] rfl (by (try simp only [List.map_toArray, List.map_cons, List.map_nil]); first | done | rfl | (simp only [List.length_drop, List.length_take]; rfl)) ?_; (with_reducible refine (spec_DrawEvalDiagram.calls kj25 _ _ l1 t386 t387 t390 t391 _ ?side1 ?side2 A88.out).mono ?_); (case side1 => repeat (first | exact (Kd.C_below HR1.out HB.out) | (with_reducible refine Kd.C_alloc ?_ _) | (with_reducible refine Kd.C_drewN ?_ _) | (with_reducible refine Kd.C_drew ?_))); (case side2 => exact HC1.out); rintro e w105 ⟨v388, v392, rfl, ho0, ho1, hb⟩; refine ⟨_, rfl, ?_⟩; have n0_ := Aside0.mk (Kd.R_elder' (rq_ HO_348001.out) (Kd.R_base ho0) hb); have n1_ := Aside0.mk (Kd.R_elder' (rq_ HO_355001.out) (Kd.R_base ho0) hb); have n2_ := Aside0.mk (Kd.R_lower (Kd.R_new' (Kd.R_new' ho0 (Kd.R_lt (rq_ HO_348001.out))) (Kd.R_lt (rq_ HO_355001.out))) (below_size (bq_))); have n3_ := Aside0.mk (Kd.R_lower ho1 (below_size (bq_))); have n4_ := Aside0.mk (blk_below (bk_ BK347.out) hb); have n5_ := Aside0.mk (blk_below (bk_ BK354.out) hb); have n6_ := Aside0.mk (below_step (bq_) hb); clear HO_348001; clear HO_355001; clear BK347; clear BK354; clear HB; have HO_348001 := n0_; have HO_355001 := n1_; have HO389 := n2_; have HO393 := n3_; have BK347 := n4_; have BK354 := n5_; have HB := n6_; clear n0_ n1_ n2_ n3_ n4_ n5_ n6_; (try clear hb); (try clear hb2); (try clear hk); (try clear hi); (try clear ho0); (try clear ho1)) | ((with_reducible refine gate_dst (N := 24) rfl ?_); refine boxq_ (N := 24) (cs := #[.int .i64 0, .slice none 0 0, .int .i64 0]) (t := 30) ?_; intro gb394 hg w106 hbox hb; have n0_ := Aside0.mk (Kd.R_below (rq_ HO_348001.out) hb); have n1_ := Aside0.mk (Kd.R_below (rq_ HO_355001.out) hb); have n2_ := Aside0.mk (Kd.R_below (rq_ HO389.out) hb); have n3_ := Aside0.mk (Kd.R_below (rq_ HO393.out) hb); have n4_ := Aside0.mk (blk_below (bk_ BK347.out) hb); have n5_ := Aside0.mk (blk_below (bk_ BK354.out) hb); have n6_ := Aside0.mk (below_step (bq_) hb); have n7_ := Aside0.mk (hbox); have n8_ := Aside0.mk ((by rw [hg]; exact (below_size (bq_)) : w.heap.size ≤ gb394)); have n9_ := Aside0.mk ((by rw [hg]; exact (below_size (bq_)) : w.heap.size ≤ gb394)); have n10_ := Aside0.mk ((by rw [hg]; exact Nat.ne_of_lt (blk_lt (bk_ BK347.out)) : gb347 ≠ gb394)); have n11_ := Aside0.mk ((by rw [hg]; exact Nat.ne_of_gt (blk_lt (bk_ BK347.out)) : gb394 ≠ gb347)); have n12_ := Aside0.mk ((by rw [hg]; exact Nat.ne_of_lt (blk_lt (bk_ BK354.out)) : gb354 ≠ gb394)); have n13_ := Aside0.mk ((by rw [hg]; exact Nat.ne_of_gt (blk_lt (bk_ BK354.out)) : gb394 ≠ gb354)); clear HO_348001; clear HO_355001; clear HO389; clear HO393; clear BK347; clear BK354; clear HB; have HO_348001 := n0_; have HO_355001 := n1_; have HO389 := n2_; have HO393 := n3_; have BK347 := n4_; have BK354 := n5_; have HB := n6_; have BK394 := n7_; have GW394 := n8_; have GE394 := n9_; have NB347_394 := n10_; have NB394_347 := n11_; have NB354_394 := n12_; have NB394_354 := n13_; clear n0_ n1_ n2_ n3_ n4_ n5_ n6_ n7_ n8_ n9_ n10_ n11_ n12_ n13_; clear hb hbox hg; have hnb107 := NB394_347.out; have hnc107 := NB347_394.out; have hnb108 := NB394_354.out; have hnc108 := NB354_394.out; have hcz109_0 := cq_ BK394.out 0 (.int .i64 0); have hcz109_1 := cq_ BK394.out 1 (.slice none 0 0); have hcz109_2 := cq_ BK394.out 2 (.int .i64 0); have hfz109_0 := blk_frozen BK394.out 0; have hfz109_1 := blk_frozen BK394.out 1; have hfz109_2 := blk_frozen BK394.out 2; obtain ⟨Ao110, co110, eo110⟩ := Kd.R_slice HO389.out; subst eo110; obtain ⟨Ao111, co111, eo111⟩ := Kd.R_slice HO393.out; subst eo111) | ((with_reducible refine gate_callee (f := 19) rfl ?_); refine goesL_ (some 167) rfl rfl Try.func19 (by kernel_rfl) rfl #[.agg #[.int .i64 t386, .slice Ao110 t387.length co110, .int .i64 t390], .slice Ao111 t391.length co111] rfl (by (try simp only [List.map_toArray, List.map_cons, List.map_nil]); first | done | rfl | (simp only [List.length_drop, List.length_take]; rfl)) ?_; (with_reducible refine (impl_EvalDiagram.calls kj25 t386 _ _ t387 t390 _ _ t391 t395 t396 _ ?side1 ?side2 ?side3 ?side4 A89.out).mono ?_); (case side1 => refine (Kd.R_reads' (e := 75) (base := w.heap.size) (ok := fun k_ => ((True ∧ some k_ ≠ (.slice Ao13 t342.length co13 : Value).ownBlock) ∧ some k_ ≠ (.slice Ao18 t349.length co18 : Value).ownBlock)) (n := t387.length) (c := co110) ?_).2.2; exact (rq_ ((Kd.R_mono (Kd.R_far (p := ⟨gb394, 2, none⟩) (Kd.R_far (p := ⟨gb394, 1, none⟩) (Kd.R_far (p := ⟨gb394, 0, none⟩) (Kd.R_types HO389.out BK394.out (by decide)) (fun _ hk => hk.2) (.int .i64 t386)) (fun _ hk => hk.2) (.slice Ao110 t387.length co110)) (fun _ hk => hk.2) (.int .i64 t390)) (fun _ h_ => h_.1))))); (case side2 => exact (Kd.R_reads' HO389.out).2.1); (case side3 => refine (Kd.R_reads' (e := 4) (base := w.heap.size) (ok := fun k_ => True) (n := t391.length) (c := co111) ?_).2.2; exact (rq_ ((Kd.R_mono (Kd.R_far (p := ⟨gb394, 2, none⟩) (Kd.R_far (p := ⟨gb394, 1, none⟩) (Kd.R_far (p := ⟨gb394, 0, none⟩) (Kd.R_types HO393.out BK394.out (by decide)) (fun _ hk => hk.2) (.int .i64 t386)) (fun _ hk => hk.2) (.slice Ao110 t387.length co110)) (fun _ hk => hk.2) (.int .i64 t390)) (fun _ h_ => h_.1))))); (case side4 => exact (Kd.R_reads' HO393.out).2.1); rintro e w112 ⟨rfl, hb⟩; refine ⟨_, rfl, ?_⟩; have n0_ := Aside0.mk (Kd.R_below (rq_ ((Kd.R_mono (Kd.R_far (p := ⟨gb394, 2, none⟩) (Kd.R_far (p := ⟨gb394, 1, none⟩) (Kd.R_far (p := ⟨gb394, 0, none⟩) (Kd.R_types HO_348001.out BK394.out (by decide)) (fun _ hk => hk.2) (.int .i64 t386)) (fun _ hk => hk.2) (.slice Ao110 t387.length co110)) (fun _ hk => hk.2) (.int .i64 t390)) (fun _ h_ => h_.1)))) hb); have n1_ := Aside0.mk (Kd.R_below (rq_ ((Kd.R_mono (Kd.R_far (p := ⟨gb394, 2, none⟩) (Kd.R_far (p := ⟨gb394, 1, none⟩) (Kd.R_far (p := ⟨gb394, 0, none⟩) (Kd.R_types HO_355001.out BK394.out (by decide)) (fun _ hk => hk.2) (.int .i64 t386)) (fun _ hk => hk.2) (.slice Ao110 t387.length co110)) (fun _ hk => hk.2) (.int .i64 t390)) (fun _ h_ => h_.1)))) hb); have n2_ := Aside0.mk (Kd.R_below (rq_ ((Kd.R_mono (Kd.R_far (p := ⟨gb394, 2, none⟩) (Kd.R_far (p := ⟨gb394, 1, none⟩) (Kd.R_far (p := ⟨gb394, 0, none⟩) (Kd.R_types HO389.out BK394.out (by decide)) (fun _ hk => hk.2) (.int .i64 t386)) (fun _ hk => hk.2) (.slice Ao110 t387.length co110)) (fun _ hk => hk.2) (.int .i64 t390)) (fun _ h_ => h_.1)))) hb); have n3_ := Aside0.mk (Kd.R_below (rq_ ((Kd.R_mono (Kd.R_far (p := ⟨gb394, 2, none⟩) (Kd.R_far (p := ⟨gb394, 1, none⟩) (Kd.R_far (p := ⟨gb394, 0, none⟩) (Kd.R_types HO393.out BK394.out (by decide)) (fun _ hk => hk.2) (.int .i64 t386)) (fun _ hk => hk.2) (.slice Ao110 t387.length co110)) (fun _ hk => hk.2) (.int .i64 t390)) (fun _ h_ => h_.1)))) hb); have n4_ := Aside0.mk (blk_below (g := gb347) (o := .cells #[.int .i64 t341, .slice Ao13 t342.length co13, .int .i64 t345] 30 (0, 0)) (by (with_reducible repeat (first | refine blk_drewN ?_ _ | refine blk_drew ?_ | refine blk_alloc ?_ _)); refine blk_far ?_ NB347_394.out _; (with_reducible repeat (first | refine blk_drewN ?_ _ | refine blk_drew ?_ | refine blk_alloc ?_ _)); refine blk_far ?_ NB347_394.out _; (with_reducible repeat (first | refine blk_drewN ?_ _ | refine blk_drew ?_ | refine blk_alloc ?_ _)); refine blk_far ?_ NB347_394.out _; (with_reducible repeat (first | refine blk_drewN ?_ _ | refine blk_drew ?_ | refine blk_alloc ?_ _)); exact BK347.out) hb); have n5_ := Aside0.mk (blk_below (g := gb354) (o := .cells #[.int .i64 t348, .slice Ao18 t349.length co18, .int .i64 t352] 30 (0, 0)) (by (with_reducible repeat (first | refine blk_drewN ?_ _ | refine blk_drew ?_ | refine blk_alloc ?_ _)); refine blk_far ?_ NB354_394.out _; (with_reducible repeat (first | refine blk_drewN ?_ _ | refine blk_drew ?_ | refine blk_alloc ?_ _)); refine blk_far ?_ NB354_394.out _; (with_reducible repeat (first | refine blk_drewN ?_ _ | refine blk_drew ?_ | refine blk_alloc ?_ _)); refine blk_far ?_ NB354_394.out _; (with_reducible repeat (first | refine blk_drewN ?_ _ | refine blk_drew ?_ | refine blk_alloc ?_ _)); exact BK354.out) hb); have n6_ := Aside0.mk (blk_below (g := gb394) (o := .cells #[.int .i64 t386, .slice Ao110 t387.length co110, .int .i64 t390] 30 (0, 0)) (by (with_reducible repeat (first | refine blk_drewN ?_ _ | refine blk_drew ?_ | refine blk_alloc ?_ _)); refine blk_put (cs := #[.int .i64 t386, .slice Ao110 t387.length co110, .int .i64 0]) ?_ 2 _ rfl; (with_reducible repeat (first | refine blk_drewN ?_ _ | refine blk_drew ?_ | refine blk_alloc ?_ _)); refine blk_put (cs := #[.int .i64 t386, .slice none 0 0, .int .i64 0]) ?_ 1 _ rfl; (with_reducible repeat (first | refine blk_drewN ?_ _ | refine blk_drew ?_ | refine blk_alloc ?_ _)); refine blk_put (cs := #[.int .i64 0, .slice none 0 0, .int .i64 0]) ?_ 0 _ rfl; (with_reducible repeat (first | refine blk_drewN ?_ _ | refine blk_drew ?_ | refine blk_alloc ?_ _)); exact BK394.out) hb); have n7_ := Aside0.mk (below_step (bq_) hb); clear HO_348001; clear HO_355001; clear HO389; clear HO393; clear BK347; clear BK354; clear BK394; clear HB; have HO_348001 := n0_; have HO_355001 := n1_; have HO389 := n2_; have HO393 := n3_; have BK347 := n4_; have BK354 := n5_; have BK394 := n6_; have HB := n7_; clear n0_ n1_ n2_ n3_ n4_ n5_ n6_ n7_; (try clear hb); (try clear hb2); (try clear hk); (try clear hi); have hcz113_0 := cq_ BK394.out 0 (.int .i64 t386); have hcz113_1 := cq_ BK394.out 1 (.slice Ao110 t387.length co110); have hcz113_2 := cq_ BK394.out 2 (.int .i64 t390); have hfz113_0 := blk_frozen BK394.out 0; have hfz113_1 := blk_frozen BK394.out 1; have hfz113_2 := blk_frozen BK394.out 2) | ((with_reducible refine gate_callee (f := 17) rfl ?_); refine goesL_ (some 173) rfl rfl Try.func17 (by kernel_rfl) rfl #[.agg #[.int .i64 t386, .slice Ao110 t387.length co110, .int .i64 t390], .slice Ao111 t391.length co111] rfl (by (try simp only [List.map_toArray, List.map_cons, List.map_nil]); first | done | rfl | (simp only [List.length_drop, List.length_take]; rfl)) ?_; (with_reducible refine (spec_EvalDiagram.calls kj25 t386 _ _ t387 t390 _ _ t391 t397 t398 _ ?side1 ?side2 ?side3 ?side4 A90.out).mono ?_); (case side1 => repeat (first | exact (Kd.R_reads' HO389.out).2.2 | (with_reducible refine Kd.C_alloc ?_ _) | (with_reducible refine Kd.C_drewN ?_ _) | (with_reducible refine Kd.C_drew ?_))); (case side2 => exact (Kd.R_reads' HO389.out).2.1); (case side3 => repeat (first | exact (Kd.R_reads' HO393.out).2.2 | (with_reducible refine Kd.C_alloc ?_ _) | (with_reducible refine Kd.C_drewN ?_ _) | (with_reducible refine Kd.C_drew ?_))); (case side4 => exact (Kd.R_reads' HO393.out).2.1); rintro e w114 ⟨rfl, hb⟩; refine ⟨_, rfl, ?_⟩; have n0_ := Aside0.mk (Kd.R_below (rq_ HO_348001.out) hb); have n1_ := Aside0.mk (Kd.R_below (rq_ HO_355001.out) hb); have n2_ := Aside0.mk (Kd.R_below (rq_ HO389.out) hb); have n3_ := Aside0.mk (Kd.R_below (rq_ HO393.out) hb); have n4_ := Aside0.mk (blk_below (bk_ BK347.out) hb); have n5_ := Aside0.mk (blk_below (bk_ BK354.out) hb); have n6_ := Aside0.mk (blk_below (bk_ BK394.out) hb); have n7_ := Aside0.mk (below_step (bq_) hb); clear HO_348001; clear HO_355001; clear HO389; clear HO393; clear BK347; clear BK354; clear BK394; clear HB; have HO_348001 := n0_; have HO_355001 := n1_; have HO389 := n2_; have HO393 := n3_; have BK347 := n4_; have BK354 := n5_; have BK394 := n6_; have HB := n7_; clear n0_ n1_ n2_ n3_ n4_ n5_ n6_ n7_; (try clear hb); (try clear hb2); (try clear hk); (try clear hi)) | ((with_reducible refine gate_callee (f := 47) rfl ?_); refine goesL_ (some 177) rfl rfl Try.func47 (by kernel_rfl) rfl #[.slice A1 l1.length c1] rfl (by (try simp only [List.map_toArray, List.map_cons, List.map_nil]); first | done | rfl | (simp only [List.length_drop, List.length_take]; rfl)) ?_; (with_reducible refine (spec_DrawOnesOf.calls kj25 _ _ l1 t399 t400 t403 _ ?side1 ?side2 A91.out).mono ?_); (case side1 => repeat (first | exact (Kd.C_below HR1.out HB.out) | (with_reducible refine Kd.C_alloc ?_ _) | (with_reducible refine Kd.C_drewN ?_ _) | (with_reducible refine Kd.C_drew ?_))); (case side2 => exact HC1.out); rintro e w115 ⟨v401, rfl, ho0, hb⟩; refine ⟨_, rfl, ?_⟩; have n0_ := Aside0.mk (Kd.R_elder' (rq_ HO_348001.out) (Kd.R_base ho0) hb); have n1_ := Aside0.mk (Kd.R_elder' (rq_ HO_355001.out) (Kd.R_base ho0) hb); have n2_ := Aside0.mk (Kd.R_elder' (rq_ HO389.out) (Kd.R_base ho0) hb); have n3_ := Aside0.mk (Kd.R_below (rq_ HO393.out) hb); have n4_ := Aside0.mk (Kd.R_lower (Kd.R_new' (Kd.R_new' (Kd.R_new' ho0 (Kd.R_lt (rq_ HO_348001.out))) (Kd.R_lt (rq_ HO_355001.out))) (Kd.R_lt (rq_ HO389.out))) (below_size (bq_))); have n5_ := Aside0.mk (blk_below (bk_ BK347.out) hb); have n6_ := Aside0.mk (blk_below (bk_ BK354.out) hb); have n7_ := Aside0.mk (blk_below (bk_ BK394.out) hb); have n8_ := Aside0.mk (below_step (bq_) hb); clear HO_348001; clear HO_355001; clear HO389; clear HO393; clear BK347; clear BK354; clear BK394; clear HB; have HO_348001 := n0_; have HO_355001 := n1_; have HO389 := n2_; have HO393 := n3_; have HO402 := n4_; have BK347 := n5_; have BK354 := n6_; have BK394 := n7_; have HB := n8_; clear n0_ n1_ n2_ n3_ n4_ n5_ n6_ n7_ n8_; (try clear hb); (try clear hb2); (try clear hk); (try clear hi); (try clear ho0)) | ((with_reducible refine gate_dst (N := 30) rfl ?_); refine boxq_ (N := 30) (cs := #[.int .i64 0, .slice none 0 0, .int .i64 0]) (t := 30) ?_; intro gb404 hg w116 hbox hb; have n0_ := Aside0.mk (Kd.R_below (rq_ HO_348001.out) hb); have n1_ := Aside0.mk (Kd.R_below (rq_ HO_355001.out) hb); have n2_ := Aside0.mk (Kd.R_below (rq_ HO389.out) hb); have n3_ := Aside0.mk (Kd.R_below (rq_ HO393.out) hb); have n4_ := Aside0.mk (Kd.R_below (rq_ HO402.out) hb); have n5_ := Aside0.mk (blk_below (bk_ BK347.out) hb); have n6_ := Aside0.mk (blk_below (bk_ BK354.out) hb); have n7_ := Aside0.mk (blk_below (bk_ BK394.out) hb); have n8_ := Aside0.mk (below_step (bq_) hb); have n9_ := Aside0.mk (hbox); have n10_ := Aside0.mk ((by rw [hg]; exact (below_size (bq_)) : w.heap.size ≤ gb404)); have n11_ := Aside0.mk ((by rw [hg]; exact (below_size (bq_)) : w.heap.size ≤ gb404)); have n12_ := Aside0.mk ((by rw [hg]; exact Nat.ne_of_lt (blk_lt (bk_ BK347.out)) : gb347 ≠ gb404)); have n13_ := Aside0.mk ((by rw [hg]; exact Nat.ne_of_gt (blk_lt (bk_ BK347.out)) : gb404 ≠ gb347)); have n14_ := Aside0.mk ((by rw [hg]; exact Nat.ne_of_lt (blk_lt (bk_ BK354.out)) : gb354 ≠ gb404)); have n15_ := Aside0.mk ((by rw [hg]; exact Nat.ne_of_gt (blk_lt (bk_ BK354.out)) : gb404 ≠ gb354)); have n16_ := Aside0.mk ((by rw [hg]; exact Nat.ne_of_lt (blk_lt (bk_ BK394.out)) : gb394 ≠ gb404)); have n17_ := Aside0.mk ((by rw [hg]; exact Nat.ne_of_gt (blk_lt (bk_ BK394.out)) : gb404 ≠ gb394)); clear HO_348001; clear HO_355001; clear HO389; clear HO393; clear HO402; clear BK347; clear BK354; clear BK394; clear HB; have HO_348001 := n0_; have HO_355001 := n1_; have HO389 := n2_; have HO393 := n3_; have HO402 := n4_; have BK347 := n5_; have BK354 := n6_; have BK394 := n7_; have HB := n8_; have BK404 := n9_; have GW404 := n10_; have GE404 := n11_; have NB347_404 := n12_; have NB404_347 := n13_; have NB354_404 := n14_; have NB404_354 := n15_; have NB394_404 := n16_; have NB404_394 := n17_; clear n0_ n1_ n2_ n3_ n4_ n5_ n6_ n7_ n8_ n9_ n10_ n11_ n12_ n13_ n14_ n15_ n16_ n17_; clear hb hbox hg; have hnb117 := NB404_347.out; have hnc117 := NB347_404.out; have hnb118 := NB404_354.out; have hnc118 := NB354_404.out; have hnb119 := NB404_394.out; have hnc119 := NB394_404.out; have hcz120_0 := cq_ BK404.out 0 (.int .i64 0); have hcz120_1 := cq_ BK404.out 1 (.slice none 0 0); have hcz120_2 := cq_ BK404.out 2 (.int .i64 0); have hfz120_0 := blk_frozen BK404.out 0; have hfz120_1 := blk_frozen BK404.out 1; have hfz120_2 := blk_frozen BK404.out 2; obtain ⟨Ao121, co121, eo121⟩ := Kd.R_slice HO402.out; subst eo121) | ((with_reducible refine gate_callee (f := 15) rfl ?_); refine goesL_ (some 180) rfl rfl Try.func15 (by kernel_rfl) rfl #[.agg #[.int .i64 t399, .slice Ao121 t400.length co121, .int .i64 t403]] rfl (by (try simp only [List.map_toArray, List.map_cons, List.map_nil]); first | done | rfl | (simp only [List.length_drop, List.length_take]; rfl)) ?_; (with_reducible refine (impl_OnesOf.calls kj25 t399 _ _ t400 t403 t405 t406 _ ?side1 ?side2 A92.out).mono ?_); (case side1 => refine (Kd.R_reads' (e := 75) (base := w.heap.size) (ok := fun k_ => (((True ∧ some k_ ≠ (.slice Ao13 t342.length co13 : Value).ownBlock) ∧ some k_ ≠ (.slice Ao18 t349.length co18 : Value).ownBlock) ∧ some k_ ≠ (.slice Ao110 t387.length co110 : Value).ownBlock)) (n := t400.length) (c := co121) ?_).2.2; exact (rq_ ((Kd.R_mono (Kd.R_far (p := ⟨gb404, 2, none⟩) (Kd.R_far (p := ⟨gb404, 1, none⟩) (Kd.R_far (p := ⟨gb404, 0, none⟩) (Kd.R_types HO402.out BK404.out (by decide)) (fun _ hk => hk.2) (.int .i64 t399)) (fun _ hk => hk.2) (.slice Ao121 t400.length co121)) (fun _ hk => hk.2) (.int .i64 t403)) (fun _ h_ => h_.1))))); (case side2 => exact (Kd.R_reads' HO402.out).2.1); rintro e w122 ⟨rfl, hb⟩; refine ⟨_, rfl, ?_⟩; have n0_ := Aside0.mk (Kd.R_below (rq_ ((Kd.R_mono (Kd.R_far (p := ⟨gb404, 2, none⟩) (Kd.R_far (p := ⟨gb404, 1, none⟩) (Kd.R_far (p := ⟨gb404, 0, none⟩) (Kd.R_types HO_348001.out BK404.out (by decide)) (fun _ hk => hk.2) (.int .i64 t399)) (fun _ hk => hk.2) (.slice Ao121 t400.length co121)) (fun _ hk => hk.2) (.int .i64 t403)) (fun _ h_ => h_.1)))) hb); have n1_ := Aside0.mk (Kd.R_below (rq_ ((Kd.R_mono (Kd.R_far (p := ⟨gb404, 2, none⟩) (Kd.R_far (p := ⟨gb404, 1, none⟩) (Kd.R_far (p := ⟨gb404, 0, none⟩) (Kd.R_types HO_355001.out BK404.out (by decide)) (fun _ hk => hk.2) (.int .i64 t399)) (fun _ hk => hk.2) (.slice Ao121 t400.length co121)) (fun _ hk => hk.2) (.int .i64 t403)) (fun _ h_ => h_.1)))) hb); have n2_ := Aside0.mk (Kd.R_below (rq_ ((Kd.R_mono (Kd.R_far (p := ⟨gb404, 2, none⟩) (Kd.R_far (p := ⟨gb404, 1, none⟩) (Kd.R_far (p := ⟨gb404, 0, none⟩) (Kd.R_types HO389.out BK404.out (by decide)) (fun _ hk => hk.2) (.int .i64 t399)) (fun _ hk => hk.2) (.slice Ao121 t400.length co121)) (fun _ hk => hk.2) (.int .i64 t403)) (fun _ h_ => h_.1)))) hb); have n3_ := Aside0.mk (Kd.R_below (rq_ ((Kd.R_mono (Kd.R_far (p := ⟨gb404, 2, none⟩) (Kd.R_far (p := ⟨gb404, 1, none⟩) (Kd.R_far (p := ⟨gb404, 0, none⟩) (Kd.R_types HO393.out BK404.out (by decide)) (fun _ hk => hk.2) (.int .i64 t399)) (fun _ hk => hk.2) (.slice Ao121 t400.length co121)) (fun _ hk => hk.2) (.int .i64 t403)) (fun _ h_ => h_.1)))) hb); have n4_ := Aside0.mk (Kd.R_below (rq_ ((Kd.R_mono (Kd.R_far (p := ⟨gb404, 2, none⟩) (Kd.R_far (p := ⟨gb404, 1, none⟩) (Kd.R_far (p := ⟨gb404, 0, none⟩) (Kd.R_types HO402.out BK404.out (by decide)) (fun _ hk => hk.2) (.int .i64 t399)) (fun _ hk => hk.2) (.slice Ao121 t400.length co121)) (fun _ hk => hk.2) (.int .i64 t403)) (fun _ h_ => h_.1)))) hb); have n5_ := Aside0.mk (blk_below (g := gb347) (o := .cells #[.int .i64 t341, .slice Ao13 t342.length co13, .int .i64 t345] 30 (0, 0)) (by (with_reducible repeat (first | refine blk_drewN ?_ _ | refine blk_drew ?_ | refine blk_alloc ?_ _)); refine blk_far ?_ NB347_404.out _; (with_reducible repeat (first | refine blk_drewN ?_ _ | refine blk_drew ?_ | refine blk_alloc ?_ _)); refine blk_far ?_ NB347_404.out _; (with_reducible repeat (first | refine blk_drewN ?_ _ | refine blk_drew ?_ | refine blk_alloc ?_ _)); refine blk_far ?_ NB347_404.out _; (with_reducible repeat (first | refine blk_drewN ?_ _ | refine blk_drew ?_ | refine blk_alloc ?_ _)); exact BK347.out) hb); have n6_ := Aside0.mk (blk_below (g := gb354) (o := .cells #[.int .i64 t348, .slice Ao18 t349.length co18, .int .i64 t352] 30 (0, 0)) (by (with_reducible repeat (first | refine blk_drewN ?_ _ | refine blk_drew ?_ | refine blk_alloc ?_ _)); refine blk_far ?_ NB354_404.out _; (with_reducible repeat (first | refine blk_drewN ?_ _ | refine blk_drew ?_ | refine blk_alloc ?_ _)); refine blk_far ?_ NB354_404.out _; (with_reducible repeat (first | refine blk_drewN ?_ _ | refine blk_drew ?_ | refine blk_alloc ?_ _)); refine blk_far ?_ NB354_404.out _; (with_reducible repeat (first | refine blk_drewN ?_ _ | refine blk_drew ?_ | refine blk_alloc ?_ _)); exact BK354.out) hb); have n7_ := Aside0.mk (blk_below (g := gb394) (o := .cells #[.int .i64 t386, .slice Ao110 t387.length co110, .int .i64 t390] 30 (0, 0)) (by (with_reducible repeat (first | refine blk_drewN ?_ _ | refine blk_drew ?_ | refine blk_alloc ?_ _)); refine blk_far ?_ NB394_404.out _; (with_reducible repeat (first | refine blk_drewN ?_ _ | refine blk_drew ?_ | refine blk_alloc ?_ _)); refine blk_far ?_ NB394_404.out _; (with_reducible repeat (first | refine blk_drewN ?_ _ | refine blk_drew ?_ | refine blk_alloc ?_ _)); refine blk_far ?_ NB394_404.out _; (with_reducible repeat (first | refine blk_drewN ?_ _ | refine blk_drew ?_ | refine blk_alloc ?_ _)); exact BK394.out) hb); have n8_ := Aside0.mk (blk_below (g := gb404) (o := .cells #[.int .i64 t399, .slice Ao121 t400.length co121, .int .i64 t403] 30 (0, 0)) (by (with_reducible repeat (first | refine blk_drewN ?_ _ | refine blk_drew ?_ | refine blk_alloc ?_ _)); refine blk_put (cs := #[.int .i64 t399, .slice Ao121 t400.length co121, .int .i64 0]) ?_ 2 _ rfl; (with_reducible repeat (first | refine blk_drewN ?_ _ | refine blk_drew ?_ | refine blk_alloc ?_ _)); refine blk_put (cs := #[.int .i64 t399, .slice none 0 0, .int .i64 0]) ?_ 1 _ rfl; (with_reducible repeat (first | refine blk_drewN ?_ _ | refine blk_drew ?_ | refine blk_alloc ?_ _)); refine blk_put (cs := #[.int .i64 0, .slice none 0 0, .int .i64 0]) ?_ 0 _ rfl; (with_reducible repeat (first | refine blk_drewN ?_ _ | refine blk_drew ?_ | refine blk_alloc ?_ _)); exact BK404.out) hb); have n9_ := Aside0.mk (below_step (bq_) hb); clear HO_348001; clear HO_355001; clear HO389; clear HO393; clear HO402; clear BK347; clear BK354; clear BK394; clear BK404; clear HB; have HO_348001 := n0_; have HO_355001 := n1_; have HO389 := n2_; have HO393 := n3_; have HO402 := n4_; have BK347 := n5_; have BK354 := n6_; have BK394 := n7_; have BK404 := n8_; have HB := n9_; clear n0_ n1_ n2_ n3_ n4_ n5_ n6_ n7_ n8_ n9_; (try clear hb); (try clear hb2); (try clear hk); (try clear hi); have hcz123_0 := cq_ BK404.out 0 (.int .i64 t399); have hcz123_1 := cq_ BK404.out 1 (.slice Ao121 t400.length co121); have hcz123_2 := cq_ BK404.out 2 (.int .i64 t403); have hfz123_0 := blk_frozen BK404.out 0; have hfz123_1 := blk_frozen BK404.out 1; have hfz123_2 := blk_frozen BK404.out 2) | ((with_reducible refine gate_callee (f := 13) rfl ?_); refine goesL_ (some 185) rfl rfl Try.func13 (by kernel_rfl) rfl #[.agg #[.int .i64 t399, .slice Ao121 t400.length co121, .int .i64 t403]] rfl (by (try simp only [List.map_toArray, List.map_cons, List.map_nil]); first | done | rfl | (simp only [List.length_drop, List.length_take]; rfl)) ?_; (with_reducible refine (spec_OnesOf.calls kj25 t399 _ _ t400 t403 t407 t408 _ ?side1 ?side2 A93.out).mono ?_); (case side1 => repeat (first | exact (Kd.R_reads' HO402.out).2.2 | (with_reducible refine Kd.C_alloc ?_ _) | (with_reducible refine Kd.C_drewN ?_ _) | (with_reducible refine Kd.C_drew ?_))); (case side2 => exact (Kd.R_reads' HO402.out).2.1); rintro e w124 ⟨rfl, hb⟩; refine ⟨_, rfl, ?_⟩; have n0_ := Aside0.mk (Kd.R_below (rq_ HO_348001.out) hb); have n1_ := Aside0.mk (Kd.R_below (rq_ HO_355001.out) hb); have n2_ := Aside0.mk (Kd.R_below (rq_ HO389.out) hb); have n3_ := Aside0.mk (Kd.R_below (rq_ HO393.out) hb); have n4_ := Aside0.mk (Kd.R_below (rq_ HO402.out) hb); have n5_ := Aside0.mk (blk_below (bk_ BK347.out) hb); have n6_ := Aside0.mk (blk_below (bk_ BK354.out) hb); have n7_ := Aside0.mk (blk_below (bk_ BK394.out) hb); have n8_ := Aside0.mk (blk_below (bk_ BK404.out) hb); have n9_ := Aside0.mk (below_step (bq_) hb); clear HO_348001; clear HO_355001; clear HO389; clear HO393; clear HO402; clear BK347; clear BK354; clear BK394; clear BK404; clear HB; have HO_348001 := n0_; have HO_355001 := n1_; have HO389 := n2_; have HO393 := n3_; have HO402 := n4_; have BK347 := n5_; have BK354 := n6_; have BK394 := n7_; have BK404 := n8_; have HB := n9_; clear n0_ n1_ n2_ n3_ n4_ n5_ n6_ n7_ n8_ n9_; (try clear hb); (try clear hb2); (try clear hk); (try clear hi); have hcz125_0 := cq_ BK404.out 0 (.int .i64 t399); have hcz125_1 := cq_ BK404.out 1 (.slice Ao121 t400.length co121); have hcz125_2 := cq_ BK404.out 2 (.int .i64 t403); have hfz125_0 := blk_frozen BK404.out 0; have hfz125_1 := blk_frozen BK404.out 1; have hfz125_2 := blk_frozen BK404.out 2) | ((with_reducible refine gate_callee (f := 22) rfl ?_); refine goesL_ (some 190) rfl rfl Try.func22 (by kernel_rfl) rfl #[.agg #[.int .i64 t399, .slice Ao121 t400.length co121, .int .i64 t403]] rfl (by (try simp only [List.map_toArray, List.map_cons, List.map_nil]); first | done | rfl | (simp only [List.length_drop, List.length_take]; rfl)) ?_; (with_reducible refine (impl_TableOf.calls kj25 t399 _ _ t400 t403 t409 t412 _ ?side1 ?side2 A94.out).mono ?_); (case side1 => repeat (first | exact (Kd.R_reads' HO402.out).2.2 | (with_reducible refine Kd.C_alloc ?_ _) | (with_reducible refine Kd.C_drewN ?_ _) | (with_reducible refine Kd.C_drew ?_))); (case side2 => exact (Kd.R_reads' HO402.out).2.1); rintro e w126 ⟨v410, rfl, ho0, hb⟩; refine ⟨_, rfl, ?_⟩; have n0_ := Aside0.mk (Kd.R_below (rq_ HO_348001.out) hb); have n1_ := Aside0.mk (Kd.R_below (rq_ HO_355001.out) hb); have n2_ := Aside0.mk (Kd.R_below (rq_ HO389.out) hb); have n3_ := Aside0.mk (Kd.R_elder' (rq_ HO393.out) (Kd.R_base ho0) hb); have n4_ := Aside0.mk (Kd.R_below (rq_ HO402.out) hb); have n5_ := Aside0.mk (Kd.R_lower (Kd.R_new' ho0 (Kd.R_lt (rq_ HO393.out))) (below_size (bq_))); have n6_ := Aside0.mk (blk_below (bk_ BK347.out) hb); have n7_ := Aside0.mk (blk_below (bk_ BK354.out) hb); have n8_ := Aside0.mk (blk_below (bk_ BK394.out) hb); have n9_ := Aside0.mk (blk_below (bk_ BK404.out) hb); have n10_ := Aside0.mk (below_step (bq_) hb); clear HO_348001; clear HO_355001; clear HO389; clear HO393; clear HO402; clear BK347; clear BK354; clear BK394; clear BK404; clear HB; have HO_348001 := n0_; have HO_355001 := n1_; have HO389 := n2_; have HO393 := n3_; have HO402 := n4_; have HO411 := n5_; have BK347 := n6_; have BK354 := n7_; have BK394 := n8_; have BK404 := n9_; have HB := n10_; clear n0_ n1_ n2_ n3_ n4_ n5_ n6_ n7_ n8_ n9_ n10_; (try clear hb); (try clear hb2); (try clear hk); (try clear hi); (try clear ho0); have hcz127_0 := cq_ BK404.out 0 (.int .i64 t399); have hcz127_1 := cq_ BK404.out 1 (.slice Ao121 t400.length co121); have hcz127_2 := cq_ BK404.out 2 (.int .i64 t403); have hfz127_0 := blk_frozen BK404.out 0; have hfz127_1 := blk_frozen BK404.out 1; have hfz127_2 := blk_frozen BK404.out 2) | ((with_reducible refine gate_callee (f := 21) rfl ?_); refine goesL_ (some 195) rfl rfl Try.func21 (by kernel_rfl) rfl #[.agg #[.int .i64 t399, .slice Ao121 t400.length co121, .int .i64 t403]] rfl (by (try simp only [List.map_toArray, List.map_cons, List.map_nil]); first | done | rfl | (simp only [List.length_drop, List.length_take]; rfl)) ?_; (with_reducible refine (spec_TableOf.calls kj25 t399 _ _ t400 t403 t413 t416 _ ?side1 ?side2 A95.out).mono ?_); (case side1 => repeat (first | exact (Kd.R_reads' HO402.out).2.2 | (with_reducible refine Kd.C_alloc ?_ _) | (with_reducible refine Kd.C_drewN ?_ _) | (with_reducible refine Kd.C_drew ?_))); (case side2 => exact (Kd.R_reads' HO402.out).2.1); rintro e w128 ⟨v414, rfl, ho0, hb⟩; refine ⟨_, rfl, ?_⟩; have n0_ := Aside0.mk (Kd.R_below (rq_ HO_348001.out) hb); have n1_ := Aside0.mk (Kd.R_below (rq_ HO_355001.out) hb); have n2_ := Aside0.mk (Kd.R_below (rq_ HO389.out) hb); have n3_ := Aside0.mk (Kd.R_elder' (rq_ HO393.out) (Kd.R_base ho0) hb); have n4_ := Aside0.mk (Kd.R_below (rq_ HO402.out) hb); have n5_ := Aside0.mk (Kd.R_elder' (rq_ HO411.out) (Kd.R_base ho0) hb); have n6_ := Aside0.mk (Kd.R_lower (Kd.R_new' (Kd.R_new' ho0 (Kd.R_lt (rq_ HO393.out))) (Kd.R_lt (rq_ HO411.out))) (below_size (bq_))); have n7_ := Aside0.mk (blk_below (bk_ BK347.out) hb); have n8_ := Aside0.mk (blk_below (bk_ BK354.out) hb); have n9_ := Aside0.mk (blk_below (bk_ BK394.out) hb); have n10_ := Aside0.mk (blk_below (bk_ BK404.out) hb); have n11_ := Aside0.mk (below_step (bq_) hb); clear HO_348001; clear HO_355001; clear HO389; clear HO393; clear HO402; clear HO411; clear BK347; clear BK354; clear BK394; clear BK404; clear HB; have HO_348001 := n0_; have HO_355001 := n1_; have HO389 := n2_; have HO393 := n3_; have HO402 := n4_; have HO411 := n5_; have HO415 := n6_; have BK347 := n7_; have BK354 := n8_; have BK394 := n9_; have BK404 := n10_; have HB := n11_; clear n0_ n1_ n2_ n3_ n4_ n5_ n6_ n7_ n8_ n9_ n10_ n11_; (try clear hb); (try clear hb2); (try clear hk); (try clear hi); (try clear ho0)))
                          have n0_ := Aside0.mk (Kd.R_drew HO_348001.out)
                          have n1_ := Aside0.mk (Kd.R_drew HO_355001.out)
                          have n2_ := Aside0.mk (Kd.R_drew HO389.out)
                          have n3_ := Aside0.mk (Kd.R_drew HO393.out)
                          have n4_ := Aside0.mk (Kd.R_drew HO402.out)
                          have n5_ := Aside0.mk (Kd.R_drew HO411.out)
                          have n6_ := Aside0.mk (Kd.R_drew HO415.out)
                          have n7_ := Aside0.mk (blk_drew BK347.out)
                          have n8_ := Aside0.mk (blk_drew BK354.out)
                          have n9_ := Aside0.mk (blk_drew BK394.out)
                          have n10_ := Aside0.mk (blk_drew BK404.out)
                          have n11_ := Aside0.mk (below_drew1 HB.out)
                          clear HO_348001
                          clear HO_355001
                          clear HO389
                          clear HO393
                          clear HO402
                          clear HO411
                          clear HO415
                          clear BK347
                          clear BK354
                          clear BK394
                          clear BK404
                          clear HB
                          have HO_348001 := n0_
                          have HO_355001 := n1_
                          have HO389 := n2_
                          have HO393 := n3_
                          have HO402 := n4_
                          have HO411 := n5_
                          have HO415 := n6_
                          have BK347 := n7_
                          have BK354 := n8_
                          have BK394 := n9_
                          have BK404 := n10_
                          have HB := n11_
                          clear n0_ n1_ n2_ n3_ n4_ n5_ n6_ n7_ n8_ n9_ n10_ n11_
                          obtain ⟨Ao130, co130, eo130⟩ := Kd.R_slice HO411.out
                          (first | subst eo130 | (injection eo130 with f1_ f2_ f3_; have f4_ := f1_.symm; have f5_ := f3_.symm; clear f1_ f2_ f3_; subst f4_; subst f5_))
                          obtain ⟨Ao131, co131, eo131⟩ := Kd.R_slice HO415.out
                          (first | subst eo131 | (injection eo131 with f1_ f2_ f3_; have f4_ := f1_.symm; have f5_ := f3_.symm; clear f1_ f2_ f3_; subst f4_; subst f5_))
                          refine start_ (n := 36) (S := fun w' => w'.cell? ⟨gb404, 0, none⟩ = some (.int .i64 t399) ∧ w'.cell? ⟨gb404, 1, none⟩ = some (.slice Ao121 t400.length co121) ∧ w'.cell? ⟨gb404, 2, none⟩ = some (.int .i64 t403)) (ds := []) #[false, false, false, false, false, false, false, false, false, false, false, false, false, false, false, false, false, false, false, false, false, false, false, false, false, false, false, false, false, false, false, false, false, false, false, false] (by kernel_rfl) rfl rfl ⟨(blk_cell BK404.out 0).trans rfl, (blk_cell BK404.out 1).trans rfl, (blk_cell BK404.out 2).trans rfl⟩ (fun hHeld => ?_); refine with_tabW laws_FnDiagrams.tab33 laws_FnDiagrams.bits33 (fun HT_ HW_ => ?_)
                          generalize w128.drew = w129 at HO_348001 HO_355001 HO389 HO393 HO402 HO411 HO415 BK347 BK354 BK394 BK404 HB hHeld ⊢
                          refine pure_ (i := 0) (N := some 198) (v := ?_) (a' := ?_) #[true, false, false, false, false, false, false, false, false, false, false, false, false, false, false, false, false, false, false, false, false, false, false, false, false, false, false, false, false, false, false, false, false, false, false, false] rfl rfl (any_of HT_.out (by kernel_rfl)) (fun _ _ _ h => h) (Or.inl ⟨by rfl, ?_⟩) ?_ ?_
                          rotate_left
                          · intro w'
                            go_simp
                            with_reducible rfl
                          rotate_left
                          · simp only [Act.put, List.setIfInBounds_toArray, List.set_cons_zero, List.set_cons_succ, i64_w, i32_w]
                            rfl
                          refine pure_ (i := 1) (N := some 199) (v := ?_) (a' := ?_) #[true, true, false, false, false, false, false, false, false, false, false, false, false, false, false, false, false, false, false, false, false, false, false, false, false, false, false, false, false, false, false, false, false, false, false, false] rfl rfl (any_of HT_.out (by kernel_rfl)) (fun _ _ _ h => h) (Or.inl ⟨by rfl, ?_⟩) ?_ ?_
                          rotate_left
                          · intro w'
                            go_simp
                            with_reducible rfl
                          rotate_left
                          · simp only [Act.put, List.setIfInBounds_toArray, List.set_cons_zero, List.set_cons_succ, i64_w, i32_w]
                            rfl
                          refine pure_ (i := 2) (N := some 200) (v := ?_) (a' := ?_) #[true, true, true, false, false, false, false, false, false, false, false, false, false, false, false, false, false, false, false, false, false, false, false, false, false, false, false, false, false, false, false, false, false, false, false, false] rfl rfl (any_of HT_.out (by kernel_rfl)) (fun _ _ _ h => h) (Or.inl ⟨by rfl, ?_⟩) ?_ ?_
                          rotate_left
                          · intro w'
                            go_simp
                            with_reducible rfl
                          rotate_left
                          · simp only [Act.put, List.setIfInBounds_toArray, List.set_cons_zero, List.set_cons_succ, i64_w, i32_w]
                            rfl
                          refine pure_ (i := 3) (N := some 201) (v := ?_) (a' := ?_) #[true, true, true, true, false, false, false, false, false, false, false, false, false, false, false, false, false, false, false, false, false, false, false, false, false, false, false, false, false, false, false, false, false, false, false, false] rfl rfl (any_of HT_.out (by kernel_rfl)) (fun _ _ _ h => h) (Or.inl ⟨by rfl, ?_⟩) ?_ ?_
                          rotate_left
                          · intro w'
                            go_simp
                            with_reducible rfl
                          rotate_left
                          · simp only [Act.put, List.setIfInBounds_toArray, List.set_cons_zero, List.set_cons_succ, i64_w, i32_w]
                            rfl
                          refine pure_ (i := 4) (N := some 202) (v := ?_) (a' := ?_) #[true, true, true, true, true, false, false, false, false, false, false, false, false, false, false, false, false, false, false, false, false, false, false, false, false, false, false, false, false, false, false, false, false, false, false, false] rfl rfl (any_of HT_.out (by kernel_rfl)) (fun _ _ _ h => h) (Or.inl ⟨by rfl, ?_⟩) ?_ ?_
                          rotate_left
                          · intro w'
                            go_simp
                            with_reducible rfl
                          rotate_left
                          · simp only [Act.put, List.setIfInBounds_toArray, List.set_cons_zero, List.set_cons_succ, i64_w, i32_w]
                            rfl
                          refine pure_ (i := 5) (N := some 203) (v := ?_) (a' := ?_) #[true, true, true, true, true, true, false, false, false, false, false, false, false, false, false, false, false, false, false, false, false, false, false, false, false, false, false, false, false, false, false, false, false, false, false, false] rfl rfl (any_of HT_.out (by kernel_rfl)) (fun _ _ _ h => h) (Or.inl ⟨by rfl, ?_⟩) ?_ ?_
                          rotate_left
                          · intro w'
                            go_simp
                            with_reducible rfl
                          rotate_left
                          · simp only [Act.put, List.setIfInBounds_toArray, List.set_cons_zero, List.set_cons_succ, i64_w, i32_w]
                            rfl
                          refine pure_ (i := 6) (N := some 204) (v := ?_) (a' := ?_) #[true, true, true, true, true, true, true, false, false, false, false, false, false, false, false, false, false, false, false, false, false, false, false, false, false, false, false, false, false, false, false, false, false, false, false, false] rfl rfl (any_of HT_.out (by kernel_rfl)) (fun _ _ _ h => h) (Or.inl ⟨by rfl, ?_⟩) ?_ ?_
                          rotate_left
                          · intro w'
                            go_simp
                            with_reducible rfl
                          rotate_left
                          · simp only [Act.put, List.setIfInBounds_toArray, List.set_cons_zero, List.set_cons_succ, i64_w, i32_w]
                            rfl
                          refine pure_ (i := 7) (N := some 205) (v := ?_) (a' := ?_) #[true, true, true, true, true, true, true, true, false, false, false, false, false, false, false, false, false, false, false, false, false, false, false, false, false, false, false, false, false, false, false, false, false, false, false, false] rfl rfl (any_of HT_.out (by kernel_rfl)) (fun _ _ _ h => h) (Or.inl ⟨by rfl, ?_⟩) ?_ ?_
                          rotate_left
                          · intro w'
                            go_simp
                            with_reducible rfl
                          rotate_left
                          · simp only [Act.put, List.setIfInBounds_toArray, List.set_cons_zero, List.set_cons_succ, i64_w, i32_w]
                            rfl
                          refine pure_ (i := 8) (N := some 206) (v := ?_) (a' := ?_) #[true, true, true, true, true, true, true, true, true, false, false, false, false, false, false, false, false, false, false, false, false, false, false, false, false, false, false, false, false, false, false, false, false, false, false, false] rfl rfl (any_of HT_.out (by kernel_rfl)) (fun _ _ _ h => h) (Or.inl ⟨by rfl, ?_⟩) ?_ ?_
                          rotate_left
                          · intro w'
                            go_simp
                            with_reducible rfl
                          rotate_left
                          · simp only [Act.put, List.setIfInBounds_toArray, List.set_cons_zero, List.set_cons_succ, i64_w, i32_w]
                            rfl
                          refine pure_ (i := 9) (N := some 207) (v := ?_) (a' := ?_) #[true, true, true, true, true, true, true, true, true, true, false, false, false, false, false, false, false, false, false, false, false, false, false, false, false, false, false, false, false, false, false, false, false, false, false, false] rfl rfl (any_of HT_.out (by kernel_rfl)) (fun _ _ _ h => h) (Or.inl ⟨by rfl, ?_⟩) ?_ ?_
                          rotate_left
                          · intro w'
                            go_simp
                            with_reducible rfl
                          rotate_left
                          · simp only [Act.put, List.setIfInBounds_toArray, List.set_cons_zero, List.set_cons_succ, i64_w, i32_w]
                            rfl
                          refine pure_ (i := 10) (N := some 208) (v := ?_) (a' := ?_) #[true, true, true, true, true, true, true, true, true, true, true, false, false, false, false, false, false, false, false, false, false, false, false, false, false, false, false, false, false, false, false, false, false, false, false, false] rfl rfl (any_of HT_.out (by kernel_rfl)) (fun _ _ _ h => h) (Or.inl ⟨by rfl, ?_⟩) ?_ ?_
                          rotate_left
                          · intro w'
                            go_simp
                            with_reducible rfl
                          rotate_left
                          · simp only [Act.put, List.setIfInBounds_toArray, List.set_cons_zero, List.set_cons_succ, i64_w, i32_w]
                            rfl
                          refine pure_ (i := 11) (N := some 209) (v := ?_) (a' := ?_) #[true, true, true, true, true, true, true, true, true, true, true, true, false, false, false, false, false, false, false, false, false, false, false, false, false, false, false, false, false, false, false, false, false, false, false, false] rfl rfl (any_of HT_.out (by kernel_rfl)) (fun _ _ _ h => h) (Or.inl ⟨by rfl, ?_⟩) ?_ ?_
                          rotate_left
                          · intro w'
                            go_simp
                            with_reducible rfl
                          rotate_left
                          · simp only [Act.put, List.setIfInBounds_toArray, List.set_cons_zero, List.set_cons_succ, i64_w, i32_w]
                            rfl
                          refine pure_ (i := 12) (N := some 210) (v := ?_) (a' := ?_) #[true, true, true, true, true, true, true, true, true, true, true, true, true, false, false, false, false, false, false, false, false, false, false, false, false, false, false, false, false, false, false, false, false, false, false, false] rfl rfl (any_of HT_.out (by kernel_rfl)) (fun _ _ _ h => h) (Or.inl ⟨by rfl, ?_⟩) ?_ ?_
                          rotate_left
                          · intro w'
                            go_simp
                            with_reducible rfl
                          rotate_left
                          · simp only [Act.put, List.setIfInBounds_toArray, List.set_cons_zero, List.set_cons_succ, i64_w, i32_w]
                            rfl
                          refine pure_ (i := 13) (N := some 211) (v := ?_) (a' := ?_) #[true, true, true, true, true, true, true, true, true, true, true, true, true, true, false, false, false, false, false, false, false, false, false, false, false, false, false, false, false, false, false, false, false, false, false, false] rfl rfl (any_of HT_.out (by kernel_rfl)) (fun _ _ _ h => h) (Or.inl ⟨by rfl, ?_⟩) ?_ ?_
                          rotate_left
                          · intro w'
                            go_simp
                            with_reducible rfl
                          rotate_left
                          · simp only [Act.put, List.setIfInBounds_toArray, List.set_cons_zero, List.set_cons_succ, i64_w, i32_w]
                            rfl
                          refine pure_ (i := 14) (N := some 212) (v := ?_) (a' := ?_) #[true, true, true, true, true, true, true, true, true, true, true, true, true, true, true, false, false, false, false, false, false, false, false, false, false, false, false, false, false, false, false, false, false, false, false, false] rfl rfl (any_of HT_.out (by kernel_rfl)) (fun _ _ _ h => h) (Or.inl ⟨by rfl, ?_⟩) ?_ ?_
                          rotate_left
                          · intro w'
                            go_simp
                            with_reducible rfl
                          rotate_left
                          · simp only [Act.put, List.setIfInBounds_toArray, List.set_cons_zero, List.set_cons_succ, i64_w, i32_w]
                            rfl
                          refine pure_ (i := 15) (N := some 213) (v := ?_) (a' := ?_) #[true, true, true, true, true, true, true, true, true, true, true, true, true, true, true, true, false, false, false, false, false, false, false, false, false, false, false, false, false, false, false, false, false, false, false, false] rfl rfl (any_of HT_.out (by kernel_rfl)) (fun _ _ _ h => h) (Or.inl ⟨by rfl, ?_⟩) ?_ ?_
                          rotate_left
                          · intro w'
                            go_simp
                            with_reducible rfl
                          rotate_left
                          · simp only [Act.put, List.setIfInBounds_toArray, List.set_cons_zero, List.set_cons_succ, i64_w, i32_w]
                            rfl
                          refine pure_ (i := 16) (N := some 214) (v := ?_) (a' := ?_) #[true, true, true, true, true, true, true, true, true, true, true, true, true, true, true, true, true, false, false, false, false, false, false, false, false, false, false, false, false, false, false, false, false, false, false, false] rfl rfl (any_of HT_.out (by kernel_rfl)) (fun _ _ _ h => h) (Or.inl ⟨by rfl, ?_⟩) ?_ ?_
                          rotate_left
                          · intro w'
                            go_simp
                            with_reducible rfl
                          rotate_left
                          · simp only [Act.put, List.setIfInBounds_toArray, List.set_cons_zero, List.set_cons_succ, i64_w, i32_w]
                            rfl
                          refine pure_ (i := 17) (N := some 215) (v := ?_) (a' := ?_) #[true, true, true, true, true, true, true, true, true, true, true, true, true, true, true, true, true, true, false, false, false, false, false, false, false, false, false, false, false, false, false, false, false, false, false, false] rfl rfl (any_of HT_.out (by kernel_rfl)) (fun _ _ _ h => h) (Or.inl ⟨by rfl, ?_⟩) ?_ ?_
                          rotate_left
                          · intro w'
                            go_simp
                            with_reducible rfl
                          rotate_left
                          · simp only [Act.put, List.setIfInBounds_toArray, List.set_cons_zero, List.set_cons_succ, i64_w, i32_w]
                            rfl
                          refine pure_ (i := 18) (N := some 216) (v := ?_) (a' := ?_) #[true, true, true, true, true, true, true, true, true, true, true, true, true, true, true, true, true, true, true, false, false, false, false, false, false, false, false, false, false, false, false, false, false, false, false, false] rfl rfl (any_of HT_.out (by kernel_rfl)) (fun _ _ _ h => h) (Or.inl ⟨by rfl, ?_⟩) ?_ ?_
                          rotate_left
                          · intro w'
                            go_simp
                            with_reducible rfl
                          rotate_left
                          · simp only [Act.put, List.setIfInBounds_toArray, List.set_cons_zero, List.set_cons_succ, i64_w, i32_w]
                            rfl
                          refine pure_ (i := 19) (N := some 217) (v := ?_) (a' := ?_) #[true, true, true, true, true, true, true, true, true, true, true, true, true, true, true, true, true, true, true, true, false, false, false, false, false, false, false, false, false, false, false, false, false, false, false, false] rfl rfl (any_of HT_.out (by kernel_rfl)) (fun _ _ _ h => h) (Or.inl ⟨by rfl, ?_⟩) ?_ ?_
                          rotate_left
                          · intro w'
                            go_simp
                            with_reducible rfl
                          rotate_left
                          · simp only [Act.put, List.setIfInBounds_toArray, List.set_cons_zero, List.set_cons_succ, i64_w, i32_w]
                            rfl
                          refine pure_ (i := 20) (N := some 218) (v := ?_) (a' := ?_) #[true, true, true, true, true, true, true, true, true, true, true, true, true, true, true, true, true, true, true, true, true, false, false, false, false, false, false, false, false, false, false, false, false, false, false, false] rfl rfl (any_of HT_.out (by kernel_rfl)) (fun _ _ _ h => h) (Or.inl ⟨by rfl, ?_⟩) ?_ ?_
                          rotate_left
                          · intro w'
                            go_simp
                            with_reducible rfl
                          rotate_left
                          · simp only [Act.put, List.setIfInBounds_toArray, List.set_cons_zero, List.set_cons_succ, i64_w, i32_w]
                            rfl
                          refine pure_ (i := 21) (N := some 219) (v := ?_) (a' := ?_) #[true, true, true, true, true, true, true, true, true, true, true, true, true, true, true, true, true, true, true, true, true, true, false, false, false, false, false, false, false, false, false, false, false, false, false, false] rfl rfl (any_of HT_.out (by kernel_rfl)) (fun _ _ _ h => h) (Or.inl ⟨by rfl, ?_⟩) ?_ ?_
                          rotate_left
                          · intro w'
                            go_simp
                            with_reducible rfl
                          rotate_left
                          · simp only [Act.put, List.setIfInBounds_toArray, List.set_cons_zero, List.set_cons_succ, i64_w, i32_w]
                            rfl
                          refine pure_ (i := 22) (N := some 220) (v := ?_) (a' := ?_) #[true, true, true, true, true, true, true, true, true, true, true, true, true, true, true, true, true, true, true, true, true, true, true, false, false, false, false, false, false, false, false, false, false, false, false, false] rfl rfl (any_of HT_.out (by kernel_rfl)) (fun _ _ _ h => h) (Or.inl ⟨by rfl, ?_⟩) ?_ ?_
                          rotate_left
                          · intro w'
                            go_simp
                            with_reducible rfl
                          rotate_left
                          · simp only [Act.put, List.setIfInBounds_toArray, List.set_cons_zero, List.set_cons_succ, i64_w, i32_w]
                            rfl
                          refine pure_ (i := 23) (N := some 221) (v := ?_) (a' := ?_) #[true, true, true, true, true, true, true, true, true, true, true, true, true, true, true, true, true, true, true, true, true, true, true, true, false, false, false, false, false, false, false, false, false, false, false, false] rfl rfl (any_of HT_.out (by kernel_rfl)) (fun _ _ _ h => h) (Or.inl ⟨by rfl, ?_⟩) ?_ ?_
                          rotate_left
                          · intro w'
                            go_simp
                            with_reducible rfl
                          rotate_left
                          · simp only [Act.put, List.setIfInBounds_toArray, List.set_cons_zero, List.set_cons_succ, i64_w, i32_w]
                            rfl
                          refine pure_ (i := 24) (N := some 222) (v := ?_) (a' := ?_) #[true, true, true, true, true, true, true, true, true, true, true, true, true, true, true, true, true, true, true, true, true, true, true, true, true, false, false, false, false, false, false, false, false, false, false, false] rfl rfl (any_of HT_.out (by kernel_rfl)) (fun _ _ _ h => h) (Or.inl ⟨by rfl, ?_⟩) ?_ ?_
                          rotate_left
                          · intro w'
                            go_simp
                            with_reducible rfl
                          rotate_left
                          · simp only [Act.put, List.setIfInBounds_toArray, List.set_cons_zero, List.set_cons_succ, i64_w, i32_w]
                            rfl
                          refine pure_ (i := 25) (N := some 223) (v := ?_) (a' := ?_) #[true, true, true, true, true, true, true, true, true, true, true, true, true, true, true, true, true, true, true, true, true, true, true, true, true, true, false, false, false, false, false, false, false, false, false, false] rfl rfl (any_of HT_.out (by kernel_rfl)) (fun _ _ _ h => h) (Or.inl ⟨by rfl, ?_⟩) ?_ ?_
                          rotate_left
                          · intro w'
                            go_simp
                            with_reducible rfl
                          rotate_left
                          · simp only [Act.put, List.setIfInBounds_toArray, List.set_cons_zero, List.set_cons_succ, i64_w, i32_w]
                            rfl
                          refine one_ (i := 26) (N := some 224) #[true, true, true, true, true, true, true, true, true, true, true, true, true, true, true, true, true, true, true, true, true, true, true, true, true, true, true, false, false, false, false, false, false, false, false, false] rfl rfl (one_of HT_.out (by kernel_rfl)) (by decide) (fun K hK => ?_)
                          refine goes_ Try.func45 (by kernel_rfl) rfl #[.slice Ao130 t409.length co130, .slice Ao131 t413.length co131] (by rfl) rfl rfl (by (try simp only [List.map_toArray, List.map_cons, List.map_nil]); first | done | rfl | (simp only [List.length_drop, List.length_take]; rfl)) ?_
                          with_reducible refine (laws_sameBools.calls kj25 _ _ t409 _ _ t413 true _ ?side1 ?side2 ?side3 ?side4 A101.out).mono ?_
                          (case side1 => repeat (first | exact (Kd.R_reads' HO411.out).2.2 | (with_reducible refine Kd.C_alloc ?_ _) | (with_reducible refine Kd.C_drewN ?_ _) | (with_reducible refine Kd.C_drew ?_)))
                          (case side2 => exact (Kd.R_reads' HO411.out).2.1)
                          (case side3 => repeat (first | exact (Kd.R_reads' HO415.out).2.2 | (with_reducible refine Kd.C_alloc ?_ _) | (with_reducible refine Kd.C_drewN ?_ _) | (with_reducible refine Kd.C_drew ?_)))
                          (case side4 => exact (Kd.R_reads' HO415.out).2.1)
                          rintro e w' ⟨rfl, ⟨nd, rfl⟩⟩
                          refine ⟨_, rfl, ?_⟩
                          refine hK.out _ _ ⟨(blk_cell BK404.out 0).trans rfl, (blk_cell BK404.out 1).trans rfl, (blk_cell BK404.out 2).trans rfl⟩ (fun hHeld => ?_)
                          clear hK K
                          refine norm_ (a' := ?_) ?_ ?_
                          rotate_left
                          · show Act.put _ (some 224) _ = _
                            simp only [Act.put, List.setIfInBounds_toArray, List.set_cons_zero, List.set_cons_succ, i64_w, i32_w]
                            rfl
                          refine pure_ (i := 27) (N := some 225) (v := ?_) (a' := ?_) #[true, true, true, true, true, true, true, true, true, true, true, true, true, true, true, true, true, true, true, true, true, true, true, true, true, true, true, true, false, false, false, false, false, false, false, false] rfl rfl (any_of HT_.out (by kernel_rfl)) (fun _ _ _ h => h) (Or.inl ⟨by rfl, ?_⟩) ?_ ?_
                          rotate_left
                          · intro w'
                            go_simp
                            with_reducible rfl
                          rotate_left
                          · simp only [Act.put, List.setIfInBounds_toArray, List.set_cons_zero, List.set_cons_succ, i64_w, i32_w]
                            rfl
                          refine pure_ (i := 28) (N := some 226) (v := ?_) (a' := ?_) #[true, true, true, true, true, true, true, true, true, true, true, true, true, true, true, true, true, true, true, true, true, true, true, true, true, true, true, true, true, false, false, false, false, false, false, false] rfl rfl (any_of HT_.out (by kernel_rfl)) (fun _ _ _ h => h) (Or.inl ⟨by rfl, ?_⟩) ?_ ?_
                          rotate_left
                          · intro w'
                            go_simp
                            with_reducible rfl
                          rotate_left
                          · simp only [Act.put, List.setIfInBounds_toArray, List.set_cons_zero, List.set_cons_succ, i64_w, i32_w]
                            rfl
                          refine take_ (i := 29) (N := some 227) (v := ?_) (a' := ?_) #[true, true, true, true, true, true, true, true, true, true, true, true, true, true, true, true, true, true, true, true, true, true, true, true, true, true, true, true, true, true, false, false, false, false, false, false] rfl rfl (take_ofW HT_.out HW_.out (by kernel_rfl)) (fun _ _ _ h => h) (Or.inl ⟨by rfl, ?_⟩) hHeld ?_ ?_
                          rotate_left
                          · rintro w' ⟨s0, s1, s2⟩
                            go_simp
                            with_reducible rfl
                          rotate_left
                          · simp only [Act.put, List.setIfInBounds_toArray, List.set_cons_zero, List.set_cons_succ, i64_w, i32_w]
                            rfl
                          refine take_ (i := 31) (N := some 229) (v := ?_) (a' := ?_) #[true, true, true, true, true, true, true, true, true, true, true, true, true, true, true, true, true, true, true, true, true, true, true, true, true, true, true, true, true, true, false, true, false, false, false, false] rfl rfl (take_ofW HT_.out HW_.out (by kernel_rfl)) (fun _ _ _ h => h) (Or.inl ⟨by rfl, ?_⟩) hHeld ?_ ?_
                          rotate_left
                          · rintro w' ⟨s0, s1, s2⟩
                            go_simp
                            with_reducible rfl
                          rotate_left
                          · simp only [Act.put, List.setIfInBounds_toArray, List.set_cons_zero, List.set_cons_succ, i64_w, i32_w]
                            rfl
                          refine one_ (i := 30) (N := some 228) #[true, true, true, true, true, true, true, true, true, true, true, true, true, true, true, true, true, true, true, true, true, true, true, true, true, true, true, true, true, true, true, true, false, false, false, false] rfl rfl (one_of HT_.out (by kernel_rfl)) (by decide) (fun K hK => ?_)
                          refine goes_ Try.func44 (by kernel_rfl) rfl #[.agg #[.int .i64 t399, .slice Ao121 t400.length co121, .int .i64 t403]] (by rfl) rfl rfl (by (try simp only [List.map_toArray, List.map_cons, List.map_nil]); first | done | rfl | (simp only [List.length_drop, List.length_take]; rfl)) ?_
                          with_reducible refine (impl_GoodDiagram.calls kj25 t399 _ _ t400 t403 t418 _ ?side1 ?side2 A103.out).mono ?_
                          (case side1 => repeat (first | exact (Kd.R_reads' HO402.out).2.2 | (with_reducible refine Kd.C_alloc ?_ _) | (with_reducible refine Kd.C_drewN ?_ _) | (with_reducible refine Kd.C_drew ?_)))
                          (case side2 => exact (Kd.R_reads' HO402.out).2.1)
                          rintro e w132 ⟨rfl, hb⟩
                          refine ⟨_, rfl, ?_⟩
                          have n0_ := Aside0.mk (Kd.R_below (rq_ HO_348001.out) hb)
                          have n1_ := Aside0.mk (Kd.R_below (rq_ HO_355001.out) hb)
                          have n2_ := Aside0.mk (Kd.R_below (rq_ HO389.out) hb)
                          have n3_ := Aside0.mk (Kd.R_below (rq_ HO393.out) hb)
                          have n4_ := Aside0.mk (Kd.R_below (rq_ HO402.out) hb)
                          have n5_ := Aside0.mk (Kd.R_below (rq_ HO411.out) hb)
                          have n6_ := Aside0.mk (Kd.R_below (rq_ HO415.out) hb)
                          have n7_ := Aside0.mk (blk_below (bk_ BK347.out) hb)
                          have n8_ := Aside0.mk (blk_below (bk_ BK354.out) hb)
                          have n9_ := Aside0.mk (blk_below (bk_ BK394.out) hb)
                          have n10_ := Aside0.mk (blk_below (bk_ BK404.out) hb)
                          have n11_ := Aside0.mk (below_step (bq_) hb)
                          clear HO_348001
                          clear HO_355001
                          clear HO389
                          clear HO393
                          clear HO402
                          clear HO411
                          clear HO415
                          clear BK347
                          clear BK354
                          clear BK394
                          clear BK404
                          clear HB
                          have HO_348001 := n0_
                          have HO_355001 := n1_
                          have HO389 := n2_
                          have HO393 := n3_
                          have HO402 := n4_
                          have HO411 := n5_
                          have HO415 := n6_
                          have BK347 := n7_
                          have BK354 := n8_
                          have BK394 := n9_
                          have BK404 := n10_
                          have HB := n11_
                          clear n0_ n1_ n2_ n3_ n4_ n5_ n6_ n7_ n8_ n9_ n10_ n11_
                          (try clear hb)
                          (try clear hb2)
                          (try clear hk)
                          (try clear hi)
                          refine hK.out _ _ ⟨(blk_cell BK404.out 0).trans rfl, (blk_cell BK404.out 1).trans rfl, (blk_cell BK404.out 2).trans rfl⟩ (fun hHeld => ?_)
                          clear hK K
                          refine norm_ (a' := ?_) ?_ ?_
                          rotate_left
                          · show Act.put _ (some 228) _ = _
                            simp only [Act.put, List.setIfInBounds_toArray, List.set_cons_zero, List.set_cons_succ, i64_w, i32_w]
                            rfl
                          refine one_ (i := 32) (N := some 230) #[true, true, true, true, true, true, true, true, true, true, true, true, true, true, true, true, true, true, true, true, true, true, true, true, true, true, true, true, true, true, true, true, true, false, false, false] rfl rfl (one_of HT_.out (by kernel_rfl)) (by decide) (fun K hK => ?_)
                          refine goes_ Try.func48 (by kernel_rfl) rfl #[.agg #[.int .i64 t399, .slice Ao121 t400.length co121, .int .i64 t403]] (by rfl) rfl rfl (by (try simp only [List.map_toArray, List.map_cons, List.map_nil]); first | done | rfl | (simp only [List.length_drop, List.length_take]; rfl)) ?_
                          with_reducible refine (spec_GoodDiagram.calls kj25 t399 _ _ t400 t403 t419 _ ?side1 ?side2 A104.out).mono ?_
                          (case side1 => repeat (first | exact (Kd.R_reads' HO402.out).2.2 | (with_reducible refine Kd.C_alloc ?_ _) | (with_reducible refine Kd.C_drewN ?_ _) | (with_reducible refine Kd.C_drew ?_)))
                          (case side2 => exact (Kd.R_reads' HO402.out).2.1)
                          rintro e w133 ⟨rfl, hb⟩
                          refine ⟨_, rfl, ?_⟩
                          have n0_ := Aside0.mk (Kd.R_below (rq_ HO_348001.out) hb)
                          have n1_ := Aside0.mk (Kd.R_below (rq_ HO_355001.out) hb)
                          have n2_ := Aside0.mk (Kd.R_below (rq_ HO389.out) hb)
                          have n3_ := Aside0.mk (Kd.R_below (rq_ HO393.out) hb)
                          have n4_ := Aside0.mk (Kd.R_below (rq_ HO402.out) hb)
                          have n5_ := Aside0.mk (Kd.R_below (rq_ HO411.out) hb)
                          have n6_ := Aside0.mk (Kd.R_below (rq_ HO415.out) hb)
                          have n7_ := Aside0.mk (blk_below (bk_ BK347.out) hb)
                          have n8_ := Aside0.mk (blk_below (bk_ BK354.out) hb)
                          have n9_ := Aside0.mk (blk_below (bk_ BK394.out) hb)
                          have n10_ := Aside0.mk (blk_below (bk_ BK404.out) hb)
                          have n11_ := Aside0.mk (below_step (bq_) hb)
                          clear HO_348001
                          clear HO_355001
                          clear HO389
                          clear HO393
                          clear HO402
                          clear HO411
                          clear HO415
                          clear BK347
                          clear BK354
                          clear BK394
                          clear BK404
                          clear HB
                          have HO_348001 := n0_
                          have HO_355001 := n1_
                          have HO389 := n2_
                          have HO393 := n3_
                          have HO402 := n4_
                          have HO411 := n5_
                          have HO415 := n6_
                          have BK347 := n7_
                          have BK354 := n8_
                          have BK394 := n9_
                          have BK404 := n10_
                          have HB := n11_
                          clear n0_ n1_ n2_ n3_ n4_ n5_ n6_ n7_ n8_ n9_ n10_ n11_
                          (try clear hb)
                          (try clear hb2)
                          (try clear hk)
                          (try clear hi)
                          refine hK.out _ _ ⟨(blk_cell BK404.out 0).trans rfl, (blk_cell BK404.out 1).trans rfl, (blk_cell BK404.out 2).trans rfl⟩ (fun hHeld => ?_)
                          clear hK K
                          refine norm_ (a' := ?_) ?_ ?_
                          rotate_left
                          · show Act.put _ (some 230) _ = _
                            simp only [Act.put, List.setIfInBounds_toArray, List.set_cons_zero, List.set_cons_succ, i64_w, i32_w]
                            rfl
                          refine pure_ (i := 33) (N := some 231) (v := ?_) (a' := ?_) #[true, true, true, true, true, true, true, true, true, true, true, true, true, true, true, true, true, true, true, true, true, true, true, true, true, true, true, true, true, true, true, true, true, true, false, false] rfl rfl (any_of HT_.out (by kernel_rfl)) (fun _ _ _ h => h) (Or.inl ⟨by rfl, ?_⟩) ?_ ?_
                          rotate_left
                          · intro w'
                            go_simp
                            with_reducible rfl
                          rotate_left
                          · simp only [Act.put, List.setIfInBounds_toArray, List.set_cons_zero, List.set_cons_succ, i64_w, i32_w]
                            rfl
                          refine pure_ (i := 34) (N := some 232) (v := ?_) (a' := ?_) #[true, true, true, true, true, true, true, true, true, true, true, true, true, true, true, true, true, true, true, true, true, true, true, true, true, true, true, true, true, true, true, true, true, true, true, false] rfl rfl (any_of HT_.out (by kernel_rfl)) (fun _ _ _ h => h) (Or.inl ⟨by rfl, ?_⟩) ?_ ?_
                          rotate_left
                          · intro w'
                            go_simp
                            with_reducible rfl
                          rotate_left
                          · simp only [Act.put, List.setIfInBounds_toArray, List.set_cons_zero, List.set_cons_succ, i64_w, i32_w]
                            rfl
                          refine pure_ (i := 35) (N := some 4) (v := ?_) (a' := ?_) #[true, true, true, true, true, true, true, true, true, true, true, true, true, true, true, true, true, true, true, true, true, true, true, true, true, true, true, true, true, true, true, true, true, true, true, true] rfl rfl (any_of HT_.out (by kernel_rfl)) (fun _ _ _ h => h) (Or.inl ⟨by rfl, ?_⟩) ?_ ?_
                          rotate_left
                          · intro w'
                            go_simp
                            with_reducible rfl
                          rotate_left
                          · simp only [Act.put, List.setIfInBounds_toArray, List.set_cons_zero, List.set_cons_succ, i64_w, i32_w]
                            rfl
                          refine done_ (done_of HT_.out (by kernel_rfl)) ?_
                          try go_wp2
                          go_ret
                          exact ⟨by first | rfl | (simp [errW_none, errW_some] <;> rfl) | (simp [*, errW_none, errW_some] <;> rfl), bq_⟩
                        · replace c102 := Bool.eq_false_iff.mpr c102
                          subst c102
                          have H1 : (some false) = some r := by rw [if_neg (show ¬ (false = true) by decide)] at H; exact H
                          clear H
                          have H := H1
                          clear H1
                          exact absurd (Option.some.inj H).symm (by rw [hr_.out]; simp)
                      · rw [if_neg c100] at H
                        have c100b0 : (t412 == t416) = false := by simpa using c100
                        (try (have c100b1 : decide (t412 = t416) = false := by simpa using c100))
                        (try (have c100b2 : (t412 == t416) = false := by simpa using c100))
                        (try (have c100b3 : ¬ (t412 = t416) := by simpa using c100))
                        clear c100
                        exact absurd (Option.some.inj H).symm (by rw [hr_.out]; simp)
                    · rw [if_neg c99] at H
                      have c99b0 : (t405 == t407) = false := beq_eq_false_iff_ne.mpr c99
                      have c99b1 : (t405 != t407) = true := bne_iff_ne.mpr c99
                      exact absurd (Option.some.inj H).symm (by rw [hr_.out]; simp)
                  · rw [if_neg c98] at H
                    have c98b0 : (t406 == t408) = false := by simpa using c98
                    (try (have c98b1 : decide (t406 = t408) = false := by simpa using c98))
                    (try (have c98b2 : (t406 == t408) = false := by simpa using c98))
                    (try (have c98b3 : ¬ (t406 = t408) := by simpa using c98))
                    clear c98
                    exact absurd (Option.some.inj H).symm (by rw [hr_.out]; simp)
                · rw [if_neg c97] at H
                  have c97b0 : (t395 == t397) = false := by simpa using c97
                  (try (have c97b1 : decide (t395 = t397) = false := by simpa using c97))
                  (try (have c97b2 : (t395 == t397) = false := by simpa using c97))
                  (try (have c97b3 : ¬ (t395 = t397) := by simpa using c97))
                  clear c97
                  exact absurd (Option.some.inj H).symm (by rw [hr_.out]; simp)
              · rw [if_neg c96] at H
                have c96b0 : (t396 == t398) = false := by simpa using c96
                (try (have c96b1 : decide (t396 = t398) = false := by simpa using c96))
                (try (have c96b2 : (t396 == t398) = false := by simpa using c96))
                (try (have c96b3 : ¬ (t396 = t398) := by simpa using c96))
                clear c96
                exact absurd (Option.some.inj H).symm (by rw [hr_.out]; simp)
def laws_FnDiagrams.Pure : Prop := ∀ (l0 : List Int) (l1 : List Int), l0.length ≤ maxLen → l0.length * 1 ≤ 140737488351232 → (∀ x ∈ l0, (Lit.int .u8 x).wf = true) → l1.length ≤ maxLen → l1.length * 1 ≤ 140737488351232 → (∀ x ∈ l1, (Lit.int .u8 x).wf = true) → ∃ k, laws_FnDiagrams.f k l0 l1 = some true
theorem laws_FnDiagrams.walk (P : laws_FnDiagrams.Pure) (a0 : Option Addr) (len0 cap0 : Nat) (z0 : List Int) (a1 : Option Addr) (len1 cap1 : Nat) (z1 : List Int) (w : World) (w0 : (a0 = none ∧ len0 = 0 ∧ cap0 = 0 ∧ z0 = []) ∨ ∃ x, a0 = some x ∧ len0 ≤ cap0 ∧ cap0 ≤ maxLen ∧ z0.length = cap0 ∧ (∀ i, i < z0.length → w.cell? (x.add i) = some (.int .u8 (z0.getD i 0))) ∧ ∀ n ∈ z0, (Lit.int .u8 n).wf = true) (y0 : len0 * 1 ≤ 140737488351232) (w1 : (a1 = none ∧ len1 = 0 ∧ cap1 = 0 ∧ z1 = []) ∨ ∃ x, a1 = some x ∧ len1 ≤ cap1 ∧ cap1 ≤ maxLen ∧ z1.length = cap1 ∧ (∀ i, i < z1.length → w.cell? (x.add i) = some (.int .u8 (z1.getD i 0))) ∧ ∀ n ∈ z1, (Lit.int .u8 n).wf = true) (y1 : len1 * 1 ≤ 140737488351232) :
    Calls Try.prog 10 #[.slice a0 len0 cap0, .slice a1 len1 cap1] w fun e w' => e = .returned (.bool true) ∧ Below w.heap.size w w' := by
  obtain ⟨l0, rfl, hr0, hm0, hw0, hc0⟩ := ReadsInt.ofRowC w0
  obtain ⟨l1, rfl, hr1, hm1, hw1, hc1⟩ := ReadsInt.ofRowC w1
  obtain ⟨k, h⟩ := P l0 l1 hm0 y0 hw0 hm1 y1 hw1
  refine (laws_FnDiagrams.calls k _ _ l0 _ _ l1 true w (Kd.C_of_reads (d := (0 : Int)) (h1 := fun _ => rfl) hr0) hc0 (Kd.C_of_reads (d := (0 : Int)) (h1 := fun _ => rfl) hr1) hc1 ⟨rfl⟩ h).mono ?_
  rintro e w' ⟨rfl, hd⟩
  exact ⟨rfl, hd⟩
end Go.Proofs.Ytpndhlcbfobelaa.PDD
