import Derived.Test.YtpndhlcbfobelaaPDXx0
import Derived.Test.YtpndhlcbfobelaaPDXx5
import Derived.Test.YtpndhlcbfobelaaPDXx8
import Derived.Test.YtpndhlcbfobelaaPDXx9
import Derived.Test.YtpndhlcbfobelaaPDXx11
import Derived.Test.YtpndhlcbfobelaaPDXx12
import Derived.Test.YtpndhlcbfobelaaPDXx13
import Derived.Test.YtpndhlcbfobelaaPDXx15
import Derived.Test.YtpndhlcbfobelaaPDXx16
import Derived.Test.YtpndhlcbfobelaaPDXx17
import Derived.Test.YtpndhlcbfobelaaPDXx18a
namespace Go.Proofs.Ytpndhlcbfobelaa.PDX
open Go.RowKit Go.Proofs.YtpndhlcbfobelaaW.PrintWords Go.Proofs.YtpndhlcbfobelaaW.PrintLast Go.Proofs.YtpndhlcbfobelaaW.PrintMore
attribute [local go_sem] max2_int min2_int max_two min_two max_three min_three max_four min_four   -- for this text's walks alone
set_option linter.unusedVariables false
set_option linter.unusedSimpArgs false
set_option maxHeartbeats 8000000 in
set_option maxRecDepth 100000 in
theorem laws_FnByClauses.calls (k : Nat) (A0 : Option Addr) (c0 : Nat) (l0 : List Int) (A1 : Option Addr) (c1 : Nat) (l1 : List Int) (r : Bool) (w : World) (hr0 : Kd.C (Kd.int .u8) w A0 l0.length l0) (hc0 : l0.length ≤ c0) (hr1 : Kd.C (Kd.int .u8) w A1 l1.length l1) (hc1 : l1.length ≤ c1) (hr_ : Aside0 (r = true)) (h : laws_FnByClauses.f k l0 l1 = some r) :
  Calls Try.prog 11 #[.slice A0 l0.length c0, .slice A1 l1.length c1] w fun e w' => e = .returned (.bool r) ∧ Below w.heap.size w w' := by
 have hu30 := Try.underlying30
 have hu75 := Try.underlying75
 have HR0 := am_ hr0
 have HC0 := am_ hc0
 clear hr0 hc0
 have HR1 := am_ hr1
 have HC1 := am_ hc1
 clear hr1 hc1
 have HB := am_ (Below.refl w.heap.size w)
 have H : (if (wrap64 ((l0.length : Int) + (l1.length : Int))) > 1048576 then (some true) else ((spec_DrawByClauses.f k l0).bind fun bt446 => ((impl_ByClauses.f k bt446.1 bt446.2).bind fun bt450 => ((spec_ByClauses.f k bt446.1 bt446.2).bind fun bt457 => (if (bt450.2.2.2 != bt457.2.2.2) = true then (laws_FnByClauses.j0 k l1 bt446.1 bt446.2 bt450.2.2.2 true bt450.1 bt450.2.1 bt450.2.2.1) else ((laws_sameDiagram.f k bt450.1 bt450.2.1 bt450.2.2.1 bt457.1 bt457.2.1 bt457.2.2.1).bind fun t464 => (laws_FnByClauses.j0 k l1 bt446.1 bt446.2 bt450.2.2.2 (!t464) bt450.1 bt450.2.1 bt450.2.2.1))))))) = some r := h
 clear h
 by_cases c3 : (wrap64 ((l0.length : Int) + (l1.length : Int))) > 1048576
 ·rw [if_pos c3] at H
  have c3b0 : decide (1048576 < (wrap64 ((l0.length : Int) + (l1.length : Int)))) = true := decide_eq_true c3
  clear c3
  as_aux_lemma =>
   obtain rfl := Option.some.inj H
   go_enter Try.func11, Try.ntmps11
   go_wp2
   go_ret
   exact ⟨by first | rfl | (simp [errW_none, errW_some] <;> rfl) | (simp [*, errW_none, errW_some] <;> rfl), bq_⟩
 ·rw [if_neg c3] at H
  have c3b0 : decide (1048576 < (wrap64 ((l0.length : Int) + (l1.length : Int)))) = false := decide_eq_false c3
  clear c3
  replace H := Option.bind_eq_some_iff.mp H
  obtain ⟨⟨t446, t447⟩, A40, H⟩ := H
  replace H : ((impl_ByClauses.f k t446 t447).bind fun bt450 => ((spec_ByClauses.f k t446 t447).bind fun bt457 => (if (bt450.2.2.2 != bt457.2.2.2) = true then (laws_FnByClauses.j0 k l1 t446 t447 bt450.2.2.2 true bt450.1 bt450.2.1 bt450.2.2.1) else ((laws_sameDiagram.f k bt450.1 bt450.2.1 bt450.2.2.1 bt457.1 bt457.2.1 bt457.2.2.1).bind fun t464 => (laws_FnByClauses.j0 k l1 t446 t447 bt450.2.2.2 (!t464) bt450.1 bt450.2.1 bt450.2.2.1))))) = some r := H
  have A4 := am_ A40
  clear A40
  replace H := Option.bind_eq_some_iff.mp H
  obtain ⟨⟨t450, t451, t454, t455⟩, A50, H⟩ := H
  replace H : ((spec_ByClauses.f k t446 t447).bind fun bt457 => (if (t455 != bt457.2.2.2) = true then (laws_FnByClauses.j0 k l1 t446 t447 t455 true t450 t451 t454) else ((laws_sameDiagram.f k t450 t451 t454 bt457.1 bt457.2.1 bt457.2.2.1).bind fun t464 => (laws_FnByClauses.j0 k l1 t446 t447 t455 (!t464) t450 t451 t454)))) = some r := H
  have A5 := am_ A50
  clear A50
  replace H := Option.bind_eq_some_iff.mp H
  obtain ⟨⟨t457, t458, t461, t462⟩, A60, H⟩ := H
  replace H : (if (t455 != t462) = true then (laws_FnByClauses.j0 k l1 t446 t447 t455 true t450 t451 t454) else ((laws_sameDiagram.f k t450 t451 t454 t457 t458 t461).bind fun t464 => (laws_FnByClauses.j0 k l1 t446 t447 t455 (!t464) t450 t451 t454))) = some r := H
  have A6 := am_ A60
  clear A60
  have HC7 := am_ H
  clear H
  go_enter Try.func11, Try.ntmps11
  go_upto_region 6 with (first | ((with_reducible refine gl_ 49 rfl ?_); refine goesM_ (some 53) Try.func49 #[.slice A0 l0.length c0] ?_; (with_reducible refine (spec_DrawByClauses.calls k _ _ l0 t446 t447 _ ?side1 ?side2 A4.out).mono ?_); (case side1 => exact cm_ HR0.out); (case side2 => exact HC0.out); rintro e w8 ⟨v448, rfl, ho0, hb⟩; refine ⟨_, rfl, ?_⟩; have HO449 := am_ (Kd.S_lower ho0 (below_size (bq_))); replace HB := bs_ hb; (try clear hb); (try clear ho0); obtain ⟨Ao9, co9, eo9⟩ := Kd.S_slice HO449.out; subst eo9) | ((with_reducible refine gl_ 36 rfl ?_); refine goesM_ (some 59) Try.func36 #[.int .i64 t446, .slice Ao9 t447.length co9] ?_; (with_reducible refine (impl_ByClauses.calls k t446 _ _ t447 t450 t451 t454 t455 _ ?side1 ?side2 A5.out).mono ?_); (case side1 => exact cm_ (Kd.S_reads' HO449.out).2.2); (case side2 => exact (Kd.S_reads' HO449.out).2.1); rintro e w10 ⟨v452, rfl, ho0, hb⟩; refine ⟨_, rfl, ?_⟩; replace HO449 := am_ (Kd.S_below (sq_ HO449.out) hb); have HO453 := am_ (Kd.R_lower ho0 (below_size (bq_))); replace HB := bs_ hb; (try clear hb); (try clear ho0)) | ((with_reducible refine gate_dst (N := 7) rfl ?_); refine boxq_ (N := 7) (cs := #[.int .i64 0, .slice none 0 0, .int .i64 0]) (t := 30) ?_; intro gb456 hg w11 hbox hb; replace HO449 := am_ (Kd.S_below (sq_ HO449.out) hb); replace HO453 := am_ (Kd.R_below (rq_ HO453.out) hb); have BK456 := am_ (hbox); have GW456 := gz_ hg; have GE456 := gz_ hg; replace HB := bs_ hb; clear hb hbox hg; have hcz12_0 := cq_ BK456.out 0 (.int .i64 0); have hcz12_1 := cq_ BK456.out 1 (.slice none 0 0); have hcz12_2 := cq_ BK456.out 2 (.int .i64 0); have hfz12_0 := blk_frozen BK456.out 0; have hfz12_1 := blk_frozen BK456.out 1; have hfz12_2 := blk_frozen BK456.out 2; obtain ⟨Ao13, co13, eo13⟩ := Kd.R_slice HO453.out; subst eo13) | ((with_reducible refine gl_ 34 rfl ?_); refine goesM_ (some 65) Try.func34 #[.int .i64 t446, .slice Ao9 t447.length co9] ?_; (with_reducible refine (spec_ByClauses.calls k t446 _ _ t447 t457 t458 t461 t462 _ ?side1 ?side2 A6.out).mono ?_); (case side1 => refine (Kd.S_reads' (e := 88) (base := w.heap.size) (ok := fun k_ => True) (n := t447.length) (c := co9) ?_).2.2; exact (by (with_reducible repeat (first | apply Kd.S_alloc | apply Kd.S_drewN | apply Kd.S_drew)); exact (sg_ HO449 BK456))); (case side2 => exact (Kd.S_reads' HO449.out).2.1); rintro e w14 ⟨v459, rfl, ho0, hb⟩; refine ⟨_, rfl, ?_⟩; replace HO449 := am_ (Kd.S_below (by (with_reducible repeat (first | apply Kd.S_alloc | apply Kd.S_drewN | apply Kd.S_drew)); exact (sg_ HO449 BK456)) hb); have HO460 := am_ (Kd.R_lower (Kd.R_new' ho0 (Kd.R_lt (rg_ HO453 BK456))) (below_size (bq_))); replace HO453 := am_ (Kd.R_elder' (rg_ HO453 BK456) (Kd.R_base ho0) hb); replace BK456 := am_ (blk_below (bu_ BK456.out) hb); replace HB := bs_ hb; (try clear hb); (try clear ho0)) | ((with_reducible refine gate_dst (N := 9) rfl ?_); refine boxq_ (N := 9) (cs := #[.int .i64 0, .slice none 0 0, .int .i64 0]) (t := 30) ?_; intro gb463 hg w15 hbox hb; replace HO449 := am_ (Kd.S_below (sq_ HO449.out) hb); replace HO453 := am_ (Kd.R_below (rq_ HO453.out) hb); replace HO460 := am_ (Kd.R_below (rq_ HO460.out) hb); have BK463 := am_ (hbox); have GW463 := gz_ hg; have GE463 := gz_ hg; replace HB := bs_ hb; have NB456_463 := nl_ BK456 hg; have NB463_456 := nr_ BK456 hg; replace BK456 := bb_ BK456 hb; clear hb hbox hg; have hnb16 := NB463_456.out; have hnc16 := NB456_463.out; have hcz17_0 := cq_ BK463.out 0 (.int .i64 0); have hcz17_1 := cq_ BK463.out 1 (.slice none 0 0); have hcz17_2 := cq_ BK463.out 2 (.int .i64 0); have hfz17_0 := blk_frozen BK463.out 0; have hfz17_1 := blk_frozen BK463.out 1; have hfz17_2 := blk_frozen BK463.out 2; obtain ⟨Ao18, co18, eo18⟩ := Kd.R_slice HO460.out; subst eo18))
  (try simp only [Act.put, List.setIfInBounds_toArray, List.set_cons_zero, List.set_cons_succ])
  go_cut [76] (fun v76 wc => ∃ (kq : Nat) (x76_6 : Bool), v76 = .bool x76_6 ∧ Aside0 (laws_FnByClauses.j0 kq l1 t446 t447 t455 x76_6 t450 t451 t454 = some r) ∧ Aside0 (kq ≤ k) ∧ Aside0 (Kd.S (Kd.slice 3 (Kd.int .i64)) 88 wc w.heap.size (fun _ => True) (.slice Ao9 t447.length co9) t447) ∧ Aside0 (Kd.R k75 75 wc w.heap.size (fun k_ => some k_ ≠ ((.slice Ao18 t458.length co18) : Value).ownBlock) (.slice Ao13 t451.length co13) t451) ∧ Aside0 (Kd.R k75 75 wc w.heap.size (fun k_ => some k_ ≠ ((.slice Ao13 t451.length co13) : Value).ownBlock) (.slice Ao18 t458.length co18) t458) ∧ Aside0 (wc.heap[gb456]? = some (.cells #[.int .i64 t450, (.slice Ao13 t451.length co13), .int .i64 t454] 30 (0, 0))) ∧ Aside0 (wc.heap[gb463]? = some (.cells #[.int .i64 t457, (.slice Ao18 t458.length co18), .int .i64 t461] 30 (0, 0))) ∧ Aside0 (Below w.heap.size w wc))
  case first =>
   have H := HC7.out
   clear HC7
   by_cases c19 : (t455 != t462) = true
   ·rw [if_pos c19] at H
    have c19b0 : (t455 != t462) = true := c19
    (try (have c19b1 : decide (t455 = t462) = false := by simpa using c19))
    (try (have c19b2 : (t455 == t462) = false := by simpa using c19))
    (try (have c19b3 : ¬ (t455 = t462) := by simpa using c19))
    clear c19
    (first | rw [c19b0] | (simp only [i64_w, i32_w]; rw [c19b0]) | skip)
    exact (laws_FnByClauses.j0_no_4 (by rw [hr_.out] at H; exact H)).elim
   ·rw [if_neg c19] at H
    have c19b0 : (t455 != t462) = false := by simpa using c19
    (try (have c19b1 : decide (t455 = t462) = true := by simpa using c19))
    (try (have c19b2 : (t455 == t462) = true := by simpa using c19))
    clear c19
    (first | rw [c19b0] | (simp only [i64_w, i32_w]; rw [c19b0]) | skip)
    replace H := Option.bind_eq_some_iff.mp H
    obtain ⟨t464, A200, H⟩ := H
    replace H : (laws_FnByClauses.j0 k l1 t446 t447 t455 (!t464) t450 t451 t454) = some r := H
    have A20 := am_ A200
    clear A200
    as_aux_lemma =>
     have H' := am_ H
     clear H
     have hnb21 := NB456_463.out
     have hnc21 := NB463_456.out
     have hcz22_0 := cq_ BK456.out 0 (.int .i64 t450)
     have hcz22_1 := cq_ BK456.out 1 (.slice Ao13 t451.length co13)
     have hcz22_2 := cq_ BK456.out 2 (.int .i64 t454)
     have hfz22_0 := blk_frozen BK456.out 0
     have hfz22_1 := blk_frozen BK456.out 1
     have hfz22_2 := blk_frozen BK456.out 2
     have hcz23_0 := cq_ BK463.out 0 (.int .i64 0)
     have hcz23_1 := cq_ BK463.out 1 (.slice none 0 0)
     have hcz23_2 := cq_ BK463.out 2 (.int .i64 0)
     have hfz23_0 := blk_frozen BK463.out 0
     have hfz23_1 := blk_frozen BK463.out 1
     have hfz23_2 := blk_frozen BK463.out 2
     go_wp2_with (first | (go_at_call 42; (with_reducible refine (laws_sameDiagram.calls k t450 _ _ t451 t454 t457 _ _ t458 t461 t464 _ ?side1 ?side2 ?side3 ?side4 A20.out).mono ?_); (case side1 => refine (Kd.R_reads' (e := 75) (base := w.heap.size) (ok := fun k_ => (True ∧ some k_ ≠ (.slice Ao18 t458.length co18 : Value).ownBlock)) (n := t451.length) (c := co13) ?_).2.2; exact (rg_ HO453 BK463)); (case side2 => exact (Kd.R_reads' HO453.out).2.1); (case side3 => refine (Kd.R_reads' (e := 75) (base := w.heap.size) (ok := fun k_ => (True ∧ some k_ ≠ (.slice Ao13 t451.length co13 : Value).ownBlock)) (n := t458.length) (c := co18) ?_).2.2; exact (rg_ HO460 BK463)); (case side4 => exact (Kd.R_reads' HO460.out).2.1); rintro e w24 ⟨rfl, hb⟩; replace HO449 := am_ (Kd.S_below (by (with_reducible repeat (first | apply Kd.S_alloc | apply Kd.S_drewN | apply Kd.S_drew)); exact (sg_ HO449 BK463)) hb); replace HO453 := am_ (Kd.R_below (rg_ HO453 BK463) hb); replace HO460 := am_ (Kd.R_below (rg_ HO460 BK463) hb); replace BK456 := am_ (blk_below (bu_ BK456.out) hb); replace BK463 := am_ (blk_below (bu_ BK463.out) hb); replace HB := bs_ hb; (try clear hb)))
     go_meet
     case rel => exact ⟨_, (!t464), y30_, H', ⟨by first | omega | exact Nat.le_refl _⟩, ⟨by (with_reducible repeat (first | apply Kd.S_alloc | apply Kd.S_drewN | apply Kd.S_drew)); exact HO449.out⟩, ⟨rq_ (Kd.R_mono HO453.out (fun _ hk => hk.2))⟩, ⟨rq_ (Kd.R_mono HO460.out (fun _ hk => hk.2))⟩, ⟨bk_ BK456.out⟩, ⟨bk_ BK463.out⟩, ⟨bq_⟩⟩
  case rest =>
   clear HC7
   try clear c1
   try clear c2
   try clear p2
   try clear c3
   try clear c3b0
   try clear c4
   try clear p6
   try clear c11
   try clear c16
   try clear c19
   try clear c19b0
   try clear c19b1
   try clear c19b2
   try clear c21
   try clear hcz12_0
   try clear hcz12_1
   try clear hcz12_2
   try clear hcz17_0
   try clear hcz17_1
   try clear hcz17_2
   try clear hcz22_0
   try clear hcz22_1
   try clear hcz22_2
   try clear hcz23_0
   try clear hcz23_1
   try clear hcz23_2
   try clear hfz12_0
   try clear hfz12_1
   try clear hfz12_2
   try clear hfz17_0
   try clear hfz17_1
   try clear hfz17_2
   try clear hfz22_0
   try clear hfz22_1
   try clear hfz22_2
   try clear hfz23_0
   try clear hfz23_1
   try clear hfz23_2
   obtain ⟨kq, x76_6, rfl, HA, HJ6, HO_6, HO_457001, HO_464001, BK456, BK463, HB⟩ := hcut
   cases kq with
   | zero => exact absurd HA.out (by simp [laws_FnByClauses.j0])
   | succ kj6 =>
    have H := HA.out
    clear HA
    simp only [laws_FnByClauses.j0] at H
    by_cases c25 : x76_6 = true
    ·subst c25
     have H1 : (some false) = some r := by rw [if_pos rfl] at H; exact H
     clear H
     have H := H1
     clear H1
     exact absurd (Option.some.inj H).symm (by rw [hr_.out]; simp)
    ·replace c25 := Bool.eq_false_iff.mpr c25
     subst c25
     have H1 : (if t455 = true then ((impl_OnesOf.f kj6 t450 t451 t454).bind fun bt465 => ((impl_CountModels.f kj6 t446 t447).bind fun bt467 => ((laws_numberOf.f kj6 l1).bind fun t469 => (if (wrap64 ((t447.length : Int) + 1)) = 0 then (none) else (if 0 ≤ (Int.tmod t469 (wrap64 ((t447.length : Int) + 1))) then (if (Int.tmod t469 (wrap64 ((t447.length : Int) + 1))) ≤ (t447.length : Int) then ((impl_ByClauses.f kj6 t446 (t447.take ((Int.tmod t469 (wrap64 ((t447.length : Int) + 1))) : Int).toNat)).bind fun bt474 => ((impl_ByClauses.f kj6 t446 (t447.drop ((Int.tmod t469 (wrap64 ((t447.length : Int) + 1))) : Int).toNat)).bind fun bt485 => ((impl_BothOf.f kj6 bt474.1 bt474.2.1 bt474.2.2.1 bt485.1 bt485.2.1 bt485.2.2.1).bind fun bt492 => (if bt465.2 = true then (if bt467.2 = true then (if bt465.1 = bt467.1 then (if bt474.2.2.2 = true then (if bt485.2.2.2 = true then (if bt492.2.2.2 = true then ((laws_sameDiagram.f kj6 bt492.1 bt492.2.1 bt492.2.2.1 t450 t451 t454).bind fun t499 => (if t499 = true then (laws_FnByClauses.j1 kj6 l1) else (some false))) else (some false)) else (some false)) else (some false)) else (some false)) else (some false)) else (some false))))) else (none)) else (none)))))) else (laws_FnByClauses.j1 kj6 l1)) = some r := by rw [if_neg (show ¬ (false = true) by decide)] at H; exact H
     clear H
     have H := H1
     clear H1
     have HC26 := am_ H
     clear H
     go_upto_if 77 with (fail)
     go_cut [] (fun wc => ∃ (kq : Nat), Aside0 (laws_FnByClauses.j1 kq l1 = some r) ∧ Aside0 (kq ≤ kj6) ∧ Aside0 (Kd.R k75 75 wc w.heap.size (fun k_ => some k_ ≠ ((.slice Ao18 t458.length co18) : Value).ownBlock) (.slice Ao13 t451.length co13) t451) ∧ Aside0 (Kd.R k75 75 wc w.heap.size (fun k_ => some k_ ≠ ((.slice Ao13 t451.length co13) : Value).ownBlock) (.slice Ao18 t458.length co18) t458) ∧ Aside0 (wc.heap[gb456]? = some (.cells #[.int .i64 t450, (.slice Ao13 t451.length co13), .int .i64 t454] 30 (0, 0))) ∧ Aside0 (wc.heap[gb463]? = some (.cells #[.int .i64 t457, (.slice Ao18 t458.length co18), .int .i64 t461] 30 (0, 0))) ∧ Aside0 (Below w.heap.size w wc))
     case first =>
      have H := HC26.out
      clear HC26
      by_cases c27 : t455 = true
      ·subst c27
       have H1 : ((impl_OnesOf.f kj6 t450 t451 t454).bind fun bt465 => ((impl_CountModels.f kj6 t446 t447).bind fun bt467 => ((laws_numberOf.f kj6 l1).bind fun t469 => (if (wrap64 ((t447.length : Int) + 1)) = 0 then (none) else (if 0 ≤ (Int.tmod t469 (wrap64 ((t447.length : Int) + 1))) then (if (Int.tmod t469 (wrap64 ((t447.length : Int) + 1))) ≤ (t447.length : Int) then ((impl_ByClauses.f kj6 t446 (t447.take ((Int.tmod t469 (wrap64 ((t447.length : Int) + 1))) : Int).toNat)).bind fun bt474 => ((impl_ByClauses.f kj6 t446 (t447.drop ((Int.tmod t469 (wrap64 ((t447.length : Int) + 1))) : Int).toNat)).bind fun bt485 => ((impl_BothOf.f kj6 bt474.1 bt474.2.1 bt474.2.2.1 bt485.1 bt485.2.1 bt485.2.2.1).bind fun bt492 => (if bt465.2 = true then (if bt467.2 = true then (if bt465.1 = bt467.1 then (if bt474.2.2.2 = true then (if bt485.2.2.2 = true then (if bt492.2.2.2 = true then ((laws_sameDiagram.f kj6 bt492.1 bt492.2.1 bt492.2.2.1 t450 t451 t454).bind fun t499 => (if t499 = true then (laws_FnByClauses.j1 kj6 l1) else (some false))) else (some false)) else (some false)) else (some false)) else (some false)) else (some false)) else (some false))))) else (none)) else (none)))))) = some r := by rw [if_pos rfl] at H; exact H
       clear H
       have H := H1
       clear H1
       replace H := Option.bind_eq_some_iff.mp H
       obtain ⟨⟨t465, t466⟩, A280, H⟩ := H
       replace H : ((impl_CountModels.f kj6 t446 t447).bind fun bt467 => ((laws_numberOf.f kj6 l1).bind fun t469 => (if (wrap64 ((t447.length : Int) + 1)) = 0 then (none) else (if 0 ≤ (Int.tmod t469 (wrap64 ((t447.length : Int) + 1))) then (if (Int.tmod t469 (wrap64 ((t447.length : Int) + 1))) ≤ (t447.length : Int) then ((impl_ByClauses.f kj6 t446 (t447.take ((Int.tmod t469 (wrap64 ((t447.length : Int) + 1))) : Int).toNat)).bind fun bt474 => ((impl_ByClauses.f kj6 t446 (t447.drop ((Int.tmod t469 (wrap64 ((t447.length : Int) + 1))) : Int).toNat)).bind fun bt485 => ((impl_BothOf.f kj6 bt474.1 bt474.2.1 bt474.2.2.1 bt485.1 bt485.2.1 bt485.2.2.1).bind fun bt492 => (if t466 = true then (if bt467.2 = true then (if t465 = bt467.1 then (if bt474.2.2.2 = true then (if bt485.2.2.2 = true then (if bt492.2.2.2 = true then ((laws_sameDiagram.f kj6 bt492.1 bt492.2.1 bt492.2.2.1 t450 t451 t454).bind fun t499 => (if t499 = true then (laws_FnByClauses.j1 kj6 l1) else (some false))) else (some false)) else (some false)) else (some false)) else (some false)) else (some false)) else (some false))))) else (none)) else (none))))) = some r := H
       have A28 := am_ A280
       clear A280
       replace H := Option.bind_eq_some_iff.mp H
       obtain ⟨⟨t467, t468⟩, A290, H⟩ := H
       replace H : ((laws_numberOf.f kj6 l1).bind fun t469 => (if (wrap64 ((t447.length : Int) + 1)) = 0 then (none) else (if 0 ≤ (Int.tmod t469 (wrap64 ((t447.length : Int) + 1))) then (if (Int.tmod t469 (wrap64 ((t447.length : Int) + 1))) ≤ (t447.length : Int) then ((impl_ByClauses.f kj6 t446 (t447.take ((Int.tmod t469 (wrap64 ((t447.length : Int) + 1))) : Int).toNat)).bind fun bt474 => ((impl_ByClauses.f kj6 t446 (t447.drop ((Int.tmod t469 (wrap64 ((t447.length : Int) + 1))) : Int).toNat)).bind fun bt485 => ((impl_BothOf.f kj6 bt474.1 bt474.2.1 bt474.2.2.1 bt485.1 bt485.2.1 bt485.2.2.1).bind fun bt492 => (if t466 = true then (if t468 = true then (if t465 = t467 then (if bt474.2.2.2 = true then (if bt485.2.2.2 = true then (if bt492.2.2.2 = true then ((laws_sameDiagram.f kj6 bt492.1 bt492.2.1 bt492.2.2.1 t450 t451 t454).bind fun t499 => (if t499 = true then (laws_FnByClauses.j1 kj6 l1) else (some false))) else (some false)) else (some false)) else (some false)) else (some false)) else (some false)) else (some false))))) else (none)) else (none)))) = some r := H
       have A29 := am_ A290
       clear A290
       replace H := Option.bind_eq_some_iff.mp H
       obtain ⟨t469, A300, H⟩ := H
       replace H : (if (wrap64 ((t447.length : Int) + 1)) = 0 then (none) else (if 0 ≤ (Int.tmod t469 (wrap64 ((t447.length : Int) + 1))) then (if (Int.tmod t469 (wrap64 ((t447.length : Int) + 1))) ≤ (t447.length : Int) then ((impl_ByClauses.f kj6 t446 (t447.take ((Int.tmod t469 (wrap64 ((t447.length : Int) + 1))) : Int).toNat)).bind fun bt474 => ((impl_ByClauses.f kj6 t446 (t447.drop ((Int.tmod t469 (wrap64 ((t447.length : Int) + 1))) : Int).toNat)).bind fun bt485 => ((impl_BothOf.f kj6 bt474.1 bt474.2.1 bt474.2.2.1 bt485.1 bt485.2.1 bt485.2.2.1).bind fun bt492 => (if t466 = true then (if t468 = true then (if t465 = t467 then (if bt474.2.2.2 = true then (if bt485.2.2.2 = true then (if bt492.2.2.2 = true then ((laws_sameDiagram.f kj6 bt492.1 bt492.2.1 bt492.2.2.1 t450 t451 t454).bind fun t499 => (if t499 = true then (laws_FnByClauses.j1 kj6 l1) else (some false))) else (some false)) else (some false)) else (some false)) else (some false)) else (some false)) else (some false))))) else (none)) else (none))) = some r := H
       have A30 := am_ A300
       clear A300
       by_cases c31 : (wrap64 ((t447.length : Int) + 1)) = 0
       ·rw [if_pos c31] at H
        exact absurd H (by simp)
       ·rw [if_neg c31] at H
        have c31b0 : ((wrap64 ((t447.length : Int) + 1)) == 0) = false := beq_eq_false_iff_ne.mpr c31
        have c31b1 : ((wrap64 ((t447.length : Int) + 1)) != 0) = true := bne_iff_ne.mpr c31
        (first | rw [c31b0] | (simp only [i64_w, i32_w]; rw [c31b0]) | skip)
        obtain ⟨ji32, hji32⟩ : ∃ j_ : Int, (Int.tmod t469 (wrap64 ((t447.length : Int) + 1))) = j_ := ⟨_, rfl⟩
        replace H : (if 0 ≤ (ji32) then (if (ji32) ≤ (t447.length : Int) then ((impl_ByClauses.f kj6 t446 (t447.take ((ji32) : Int).toNat)).bind fun bt474 => ((impl_ByClauses.f kj6 t446 (t447.drop ((ji32) : Int).toNat)).bind fun bt485 => ((impl_BothOf.f kj6 bt474.1 bt474.2.1 bt474.2.2.1 bt485.1 bt485.2.1 bt485.2.2.1).bind fun bt492 => (if t466 = true then (if t468 = true then (if t465 = t467 then (if bt474.2.2.2 = true then (if bt485.2.2.2 = true then (if bt492.2.2.2 = true then ((laws_sameDiagram.f kj6 bt492.1 bt492.2.1 bt492.2.2.1 t450 t451 t454).bind fun t499 => (if t499 = true then (laws_FnByClauses.j1 kj6 l1) else (some false))) else (some false)) else (some false)) else (some false)) else (some false)) else (some false)) else (some false))))) else (none)) else (none)) = some r := by first | (rw [hji32] at H; exact H) | (simp only [hji32] at H ⊢; exact H)
        (try rw [hji32] at A28)
        (try rw [hji32] at A29)
        (try rw [hji32] at A30)
        by_cases c33 : 0 ≤ (ji32)
        ·rw [if_pos c33] at H
         have c33b0 := eq_true c33
         have c33b1 : decide (0 ≤ (ji32)) = true := decide_eq_true c33
         clear c33
         by_cases c34 : (ji32) ≤ (t447.length : Int)
         ·rw [if_pos c34] at H
          have c34b0 := eq_true c34
          have c34b1 : decide ((ji32) ≤ (t447.length : Int)) = true := decide_eq_true c34
          clear c34
          obtain ⟨y470, hy470⟩ : ∃ y_ : List (List Int), y_ = (t447.take ((ji32) : Int).toNat) := ⟨_, rfl⟩
          replace H : ((impl_ByClauses.f kj6 t446 y470).bind fun bt474 => ((impl_ByClauses.f kj6 t446 (t447.drop ((ji32) : Int).toNat)).bind fun bt485 => ((impl_BothOf.f kj6 bt474.1 bt474.2.1 bt474.2.2.1 bt485.1 bt485.2.1 bt485.2.2.1).bind fun bt492 => (if t466 = true then (if t468 = true then (if t465 = t467 then (if bt474.2.2.2 = true then (if bt485.2.2.2 = true then (if bt492.2.2.2 = true then ((laws_sameDiagram.f kj6 bt492.1 bt492.2.1 bt492.2.2.1 t450 t451 t454).bind fun t499 => (if t499 = true then (laws_FnByClauses.j1 kj6 l1) else (some false))) else (some false)) else (some false)) else (some false)) else (some false)) else (some false)) else (some false))))) = some r := by first | (rw [hy470]; with_reducible exact H) | (have H2_ := (Option.bind_some _ _).symm.trans H; rw [hy470]; with_reducible exact H2_) | (have H2_ := (Option.bind_some _ _).symm.trans H; with_reducible exact H2_) | with_reducible exact H | (rw [hy470]; exact H) | exact H
          have Ny470 := am_ hy470
          clear hy470
          replace H := Option.bind_eq_some_iff.mp H
          obtain ⟨⟨t474, t475, t478, t479⟩, A350, H⟩ := H
          replace H : ((impl_ByClauses.f kj6 t446 (t447.drop ((ji32) : Int).toNat)).bind fun bt485 => ((impl_BothOf.f kj6 t474 t475 t478 bt485.1 bt485.2.1 bt485.2.2.1).bind fun bt492 => (if t466 = true then (if t468 = true then (if t465 = t467 then (if t479 = true then (if bt485.2.2.2 = true then (if bt492.2.2.2 = true then ((laws_sameDiagram.f kj6 bt492.1 bt492.2.1 bt492.2.2.1 t450 t451 t454).bind fun t499 => (if t499 = true then (laws_FnByClauses.j1 kj6 l1) else (some false))) else (some false)) else (some false)) else (some false)) else (some false)) else (some false)) else (some false)))) = some r := H
          have A35 := am_ A350
          clear A350
          have c36b0 := eq_true (od_ : 0 ≤ (ji32))
          have c37b0 := eq_true (od_ : (ji32) ≤ (t447.length : Int))
          obtain ⟨y481, hy481⟩ : ∃ y_ : List (List Int), y_ = (t447.drop ((ji32) : Int).toNat) := ⟨_, rfl⟩
          replace H : ((impl_ByClauses.f kj6 t446 y481).bind fun bt485 => ((impl_BothOf.f kj6 t474 t475 t478 bt485.1 bt485.2.1 bt485.2.2.1).bind fun bt492 => (if t466 = true then (if t468 = true then (if t465 = t467 then (if t479 = true then (if bt485.2.2.2 = true then (if bt492.2.2.2 = true then ((laws_sameDiagram.f kj6 bt492.1 bt492.2.1 bt492.2.2.1 t450 t451 t454).bind fun t499 => (if t499 = true then (laws_FnByClauses.j1 kj6 l1) else (some false))) else (some false)) else (some false)) else (some false)) else (some false)) else (some false)) else (some false)))) = some r := by first | (rw [hy481]; with_reducible exact H) | (have H2_ := (Option.bind_some _ _).symm.trans H; rw [hy481]; with_reducible exact H2_) | (have H2_ := (Option.bind_some _ _).symm.trans H; with_reducible exact H2_) | with_reducible exact H | (rw [hy481]; exact H) | exact H
          have Ny481 := am_ hy481
          clear hy481
          replace H := Option.bind_eq_some_iff.mp H
          obtain ⟨⟨t485, t486, t489, t490⟩, A380, H⟩ := H
          replace H : ((impl_BothOf.f kj6 t474 t475 t478 t485 t486 t489).bind fun bt492 => (if t466 = true then (if t468 = true then (if t465 = t467 then (if t479 = true then (if t490 = true then (if bt492.2.2.2 = true then ((laws_sameDiagram.f kj6 bt492.1 bt492.2.1 bt492.2.2.1 t450 t451 t454).bind fun t499 => (if t499 = true then (laws_FnByClauses.j1 kj6 l1) else (some false))) else (some false)) else (some false)) else (some false)) else (some false)) else (some false)) else (some false))) = some r := H
          have A38 := am_ A380
          clear A380
          replace H := Option.bind_eq_some_iff.mp H
          obtain ⟨⟨t492, t493, t496, t497⟩, A390, H⟩ := H
          replace H : (if t466 = true then (if t468 = true then (if t465 = t467 then (if t479 = true then (if t490 = true then (if t497 = true then ((laws_sameDiagram.f kj6 t492 t493 t496 t450 t451 t454).bind fun t499 => (if t499 = true then (laws_FnByClauses.j1 kj6 l1) else (some false))) else (some false)) else (some false)) else (some false)) else (some false)) else (some false)) else (some false)) = some r := H
          have A39 := am_ A390
          clear A390
          by_cases c40 : t466 = true
          ·subst c40
           have H1 : (if t468 = true then (if t465 = t467 then (if t479 = true then (if t490 = true then (if t497 = true then ((laws_sameDiagram.f kj6 t492 t493 t496 t450 t451 t454).bind fun t499 => (if t499 = true then (laws_FnByClauses.j1 kj6 l1) else (some false))) else (some false)) else (some false)) else (some false)) else (some false)) else (some false)) = some r := by rw [if_pos rfl] at H; exact H
           clear H
           have H := H1
           clear H1
           by_cases c41 : t468 = true
           ·subst c41
            have H1 : (if t465 = t467 then (if t479 = true then (if t490 = true then (if t497 = true then ((laws_sameDiagram.f kj6 t492 t493 t496 t450 t451 t454).bind fun t499 => (if t499 = true then (laws_FnByClauses.j1 kj6 l1) else (some false))) else (some false)) else (some false)) else (some false)) else (some false)) = some r := by rw [if_pos rfl] at H; exact H
            clear H
            have H := H1
            clear H1
            by_cases c42 : t465 = t467
            ·rw [if_pos c42] at H
             have c42b0 : (t465 == t467) = true := beq_iff_eq.mpr c42
             have c42b1 : (t465 != t467) = false := bne_eq_false_iff_eq.mpr c42
             clear c42
             by_cases c43 : t479 = true
             ·subst c43
              have H1 : (if t490 = true then (if t497 = true then ((laws_sameDiagram.f kj6 t492 t493 t496 t450 t451 t454).bind fun t499 => (if t499 = true then (laws_FnByClauses.j1 kj6 l1) else (some false))) else (some false)) else (some false)) = some r := by rw [if_pos rfl] at H; exact H
              clear H
              have H := H1
              clear H1
              by_cases c44 : t490 = true
              ·subst c44
               have H1 : (if t497 = true then ((laws_sameDiagram.f kj6 t492 t493 t496 t450 t451 t454).bind fun t499 => (if t499 = true then (laws_FnByClauses.j1 kj6 l1) else (some false))) else (some false)) = some r := by rw [if_pos rfl] at H; exact H
               clear H
               have H := H1
               clear H1
               by_cases c45 : t497 = true
               ·subst c45
                have H1 : ((laws_sameDiagram.f kj6 t492 t493 t496 t450 t451 t454).bind fun t499 => (if t499 = true then (laws_FnByClauses.j1 kj6 l1) else (some false))) = some r := by rw [if_pos rfl] at H; exact H
                clear H
                have H := H1
                clear H1
                replace H := Option.bind_eq_some_iff.mp H
                obtain ⟨t499, A460, H⟩ := H
                replace H : (if t499 = true then (laws_FnByClauses.j1 kj6 l1) else (some false)) = some r := H
                have A46 := am_ A460
                clear A460
                by_cases c47 : t499 = true
                ·subst c47
                 have H1 : (laws_FnByClauses.j1 kj6 l1) = some r := by rw [if_pos rfl] at H; exact H
                 clear H
                 have H := H1
                 clear H1
                 as_aux_lemma =>
                  have H' := am_ H
                  clear H
                  have hnb48 := NB456_463.out
                  have hnc48 := NB463_456.out
                  have hcz49_0 := cq_ BK456.out 0 (.int .i64 t450)
                  have hcz49_1 := cq_ BK456.out 1 (.slice Ao13 t451.length co13)
                  have hcz49_2 := cq_ BK456.out 2 (.int .i64 t454)
                  have hfz49_0 := blk_frozen BK456.out 0
                  have hfz49_1 := blk_frozen BK456.out 1
                  have hfz49_2 := blk_frozen BK456.out 2
                  go_wp2_with (first | ((with_reducible refine gl_ 15 rfl ?_); refine goesM_ (some 80) Try.func15 #[.agg #[.int .i64 t450, .slice Ao13 t451.length co13, .int .i64 t454]] ?_; (with_reducible refine (impl_OnesOf.calls kj6 t450 _ _ t451 t454 t465 true _ ?side1 ?side2 A28.out).mono ?_); (case side1 => exact cm_ (Kd.R_reads' HO_457001.out).2.2); (case side2 => exact (Kd.R_reads' HO_457001.out).2.1); rintro e w50 ⟨rfl, hb⟩; refine ⟨_, rfl, ?_⟩; replace HO_6 := am_ (Kd.S_below (sq_ HO_6.out) hb); replace HO_457001 := am_ (Kd.R_below (rq_ HO_457001.out) hb); replace HO_464001 := am_ (Kd.R_below (rq_ HO_464001.out) hb); replace BK456 := bb_ BK456 hb; replace BK463 := bb_ BK463 hb; replace HB := bs_ hb; (try clear hb); (try clear hk)) | ((with_reducible refine gl_ 50 rfl ?_); refine goesM_ (some 86) Try.func50 #[.int .i64 t446, .slice Ao9 t447.length co9] ?_; (with_reducible refine (impl_CountModels.calls kj6 t446 _ _ t447 t467 true _ ?side1 ?side2 A29.out).mono ?_); (case side1 => exact cm_ (Kd.S_reads' HO_6.out).2.2); (case side2 => exact (Kd.S_reads' HO_6.out).2.1); rintro e w51 ⟨rfl, hb⟩; refine ⟨_, rfl, ?_⟩; replace HO_6 := am_ (Kd.S_below (sq_ HO_6.out) hb); replace HO_457001 := am_ (Kd.R_below (rq_ HO_457001.out) hb); replace HO_464001 := am_ (Kd.R_below (rq_ HO_464001.out) hb); replace BK456 := bb_ BK456 hb; replace BK463 := bb_ BK463 hb; replace HB := bs_ hb; (try clear hb); (try clear hk)) | ((with_reducible refine gl_ 51 rfl ?_); refine goesM_ (some 90) Try.func51 #[.slice A1 l1.length c1] ?_; (with_reducible refine (laws_numberOf.calls kj6 _ _ l1 t469 _ ?side1 ?side2 A30.out).mono ?_); (case side1 => exact cm_ (Kd.C_below HR1.out HB.out)); (case side2 => exact HC1.out); rintro e w' ⟨rfl, ⟨nd, rfl⟩⟩; refine ⟨_, rfl, ?_⟩; (try (rw [drewN_self w51]; generalize hq_ : World.drewN w51 _ = w51; replace HO_457001 : Aside0 (Kd.R k75 75 w51 w.heap.size (fun k_ => some k_ ≠ (.slice Ao18 t458.length co18 : Value).ownBlock) (.slice Ao13 t451.length co13) t451) := ⟨by rw [← hq_]; exact (rq_ HO_457001.out)⟩; replace HO_464001 : Aside0 (Kd.R k75 75 w51 w.heap.size (fun k_ => some k_ ≠ (.slice Ao13 t451.length co13 : Value).ownBlock) (.slice Ao18 t458.length co18) t458) := ⟨by rw [← hq_]; exact (rq_ HO_464001.out)⟩; replace HO_6 : Aside0 (Kd.S (Kd.slice 3 (Kd.int .i64)) 88 w51 w.heap.size (fun _ => True) (.slice Ao9 t447.length co9) t447) := ⟨by rw [← hq_]; exact (sq_ HO_6.out)⟩; replace BK456 : Aside0 (w51.heap[gb456]? = some (.cells #[.int .i64 t450, .slice Ao13 t451.length co13, .int .i64 t454] 30 (0, 0))) := ⟨by rw [← hq_]; exact (bk_ BK456.out)⟩; replace BK463 : Aside0 (w51.heap[gb463]? = some (.cells #[.int .i64 t457, .slice Ao18 t458.length co18, .int .i64 t461] 30 (0, 0))) := ⟨by rw [← hq_]; exact (bk_ BK463.out)⟩; replace HB : Aside0 (Below w.heap.size w w51) := ⟨by rw [← hq_]; exact (bq_)⟩; clear hq_)); have q52 : ((ji32) : Int) ≤ ((t447.length : Int) : Int) := od_; obtain ⟨i052, hi052, _, hsz52, _⟩ := info_parts info88; have hroom52 : t447.length ≤ co9 := (Kd.S_reads' HO_6.out).2.1; have hC52 : Kd.C (Kd.slice 3 (Kd.int .i64)) _ Ao9 t447.length t447 := (Kd.S_reads' HO_6.out).2.2; have hcut52 := cut_to (P := Try.prog) 50 88 .i64 Try.underlying50 hi052 Ao9 t447.length co9 (ji32) (od_) q52 hroom52; have hr52 := Kd.C_take (m := ((ji32) : Int).toNat) hC52 (by omega); have hy52 : y470.length = ((ji32) : Int).toNat := (by rw [Ny470.out, List.length_take]; omega); rw [← Ny470.out] at hr52; rw [← hy52] at hcut52; have HR473 := am_ hr52; have HC473 := am_ (show y470.length ≤ co9 from by omega); clear hr52 hC52 hroom52 hi052 hsz52; have KY52 := am_ hy52; clear hy52; have KL52 := am_ (show ((ji32) : Int).toNat ≤ t447.length from by omega); replace q52 := eq_true q52) | ((with_reducible refine gl_ 36 rfl ?_); refine goesM_ (some 100) Try.func36 #[.int .i64 t446, .slice Ao9 y470.length co9] ?_; (with_reducible refine (impl_ByClauses.calls kj6 t446 _ _ y470 t474 t475 t478 true _ ?side1 ?side2 A35.out).mono ?_); (case side1 => repeat (first | exact y9_ | (with_reducible refine Kd.C_alloc ?_ _) | (with_reducible refine Kd.C_drewN ?_ _) | (with_reducible refine Kd.C_drew ?_))); (case side2 => exact HC473.out); rintro e w53 ⟨v476, rfl, ho0, hb⟩; refine ⟨_, rfl, ?_⟩; replace HO_6 := am_ (Kd.S_below (sq_ HO_6.out) hb); have HO477 := am_ (Kd.R_lower (Kd.R_new' (Kd.R_new' ho0 (Kd.R_lt (rq_ HO_457001.out))) (Kd.R_lt (rq_ HO_464001.out))) (below_size (bq_))); replace HO_457001 := am_ (Kd.R_elder' (rq_ HO_457001.out) (Kd.R_base ho0) hb); replace HO_464001 := am_ (Kd.R_elder' (rq_ HO_464001.out) (Kd.R_base ho0) hb); replace BK456 := bb_ BK456 hb; replace BK463 := bb_ BK463 hb; replace HR473 := am_ (Kd.C_below y9_ hb); replace HB := bs_ hb; (try clear hb); (try clear hk); (try clear ho0)) | ((with_reducible refine gate_dst (N := 16) rfl ?_); refine boxq_ (N := 16) (cs := #[.int .i64 0, .slice none 0 0, .int .i64 0]) (t := 30) ?_; intro gb480 hg w54 hbox hb; replace HO_6 := am_ (Kd.S_below (sq_ HO_6.out) hb); replace HO_457001 := am_ (Kd.R_below (rq_ HO_457001.out) hb); replace HO_464001 := am_ (Kd.R_below (rq_ HO_464001.out) hb); replace HO477 := am_ (Kd.R_below (rq_ HO477.out) hb); replace HR473 := am_ (Kd.C_below y9_ hb); have BK480 := am_ (hbox); have GW480 := gz_ hg; have GE480 := gz_ hg; replace HB := bs_ hb; have NB456_480 := nl_ BK456 hg; have NB480_456 := nr_ BK456 hg; replace BK456 := bb_ BK456 hb; have NB463_480 := nl_ BK463 hg; have NB480_463 := nr_ BK463 hg; replace BK463 := bb_ BK463 hb; clear hb hbox hg; have hnb55 := NB480_456.out; have hnc55 := NB456_480.out; have hnb56 := NB480_463.out; have hnc56 := NB463_480.out; have hcz57_0 := cq_ BK480.out 0 (.int .i64 0); have hcz57_1 := cq_ BK480.out 1 (.slice none 0 0); have hcz57_2 := cq_ BK480.out 2 (.int .i64 0); have hfz57_0 := blk_frozen BK480.out 0; have hfz57_1 := blk_frozen BK480.out 1; have hfz57_2 := blk_frozen BK480.out 2; obtain ⟨Ao58, co58, eo58⟩ := Kd.R_slice HO477.out; subst eo58) | ((with_reducible refine gate_store (t := 30) (p := 16) rfl ?_); refine store_event (t := 30) (p := 16) (v := ?vo_w59) (w1 := (((w54.setCell ⟨gb480, 0, none⟩ (.int .i64 t474)).setCell ⟨gb480, 1, none⟩ (.slice Ao58 t475.length co58)).setCell ⟨gb480, 2, none⟩ (.int .i64 t478))) ?hg ?ho ?hn ?hr ?_; (case ho => rfl); (case hg => rfl); (case hn => rfl); (case hr => first | (go_simp; done) | (go_simp; rfl)); intro w59 hw; replace HO_6 : Aside0 (Kd.S (Kd.slice 3 (Kd.int .i64)) 88 w59 w.heap.size (fun _ => True) (.slice Ao9 t447.length co9) t447) := ⟨(by rw [hw]; exact (by (with_reducible repeat (first | apply Kd.S_alloc | apply Kd.S_drewN | apply Kd.S_drew)); exact Kd.S_mono (Kd.S_far (p := ⟨gb480, 2, none⟩) (Kd.S_far (p := ⟨gb480, 1, none⟩) (Kd.S_far (p := ⟨gb480, 0, none⟩) (Kd.S_types HO_6.out BK480.out (by decide)) (fun _ hk => hk.2) (.int .i64 t474)) (fun _ hk => hk.2) (.slice Ao58 t475.length co58)) (fun _ hk => hk.2) (.int .i64 t478)) (fun _ hk => trivial)))⟩; replace HO_457001 : Aside0 (Kd.R k75 75 w59 w.heap.size (fun k_ => some k_ ≠ (.slice Ao18 t458.length co18 : Value).ownBlock ∧ some k_ ≠ (.slice Ao58 t475.length co58 : Value).ownBlock) (.slice Ao13 t451.length co13) t451) := ⟨(by rw [hw]; exact (rq_ (Kd.R_mono (Kd.R_far (p := ⟨gb480, 2, none⟩) (Kd.R_far (p := ⟨gb480, 1, none⟩) (Kd.R_far (p := ⟨gb480, 0, none⟩) (Kd.R_types HO_457001.out BK480.out (by decide)) (fun _ hk => hk.2) (.int .i64 t474)) (fun _ hk => hk.2) (.slice Ao58 t475.length co58)) (fun _ hk => hk.2) (.int .i64 t478)) (fun _ hk => ⟨hk.1.1, hk.1.2⟩))))⟩; replace HO_464001 : Aside0 (Kd.R k75 75 w59 w.heap.size (fun k_ => some k_ ≠ (.slice Ao13 t451.length co13 : Value).ownBlock ∧ some k_ ≠ (.slice Ao58 t475.length co58 : Value).ownBlock) (.slice Ao18 t458.length co18) t458) := ⟨(by rw [hw]; exact (rq_ (Kd.R_mono (Kd.R_far (p := ⟨gb480, 2, none⟩) (Kd.R_far (p := ⟨gb480, 1, none⟩) (Kd.R_far (p := ⟨gb480, 0, none⟩) (Kd.R_types HO_464001.out BK480.out (by decide)) (fun _ hk => hk.2) (.int .i64 t474)) (fun _ hk => hk.2) (.slice Ao58 t475.length co58)) (fun _ hk => hk.2) (.int .i64 t478)) (fun _ hk => ⟨hk.1.1, hk.1.2⟩))))⟩; replace HO477 : Aside0 (Kd.R k75 75 w59 w.heap.size (fun k_ => some k_ ≠ (.slice Ao13 t451.length co13 : Value).ownBlock ∧ some k_ ≠ (.slice Ao18 t458.length co18 : Value).ownBlock) (.slice Ao58 t475.length co58) t475) := ⟨(by rw [hw]; exact (rq_ (Kd.R_mono (Kd.R_far (p := ⟨gb480, 2, none⟩) (Kd.R_far (p := ⟨gb480, 1, none⟩) (Kd.R_far (p := ⟨gb480, 0, none⟩) (Kd.R_types HO477.out BK480.out (by decide)) (fun _ hk => hk.2) (.int .i64 t474)) (fun _ hk => hk.2) (.slice Ao58 t475.length co58)) (fun _ hk => hk.2) (.int .i64 t478)) (fun _ hk => ⟨hk.1.1.2, hk.1.2⟩))))⟩; replace BK456 : Aside0 (w59.heap[gb456]? = some (.cells #[.int .i64 t450, .slice Ao13 t451.length co13, .int .i64 t454] 30 (0, 0))) := ⟨(by rw [hw]; exact (bu_ BK456.out))⟩; replace BK463 : Aside0 (w59.heap[gb463]? = some (.cells #[.int .i64 t457, .slice Ao18 t458.length co18, .int .i64 t461] 30 (0, 0))) := ⟨(by rw [hw]; exact (bu_ BK463.out))⟩; replace BK480 : Aside0 (w59.heap[gb480]? = some (.cells #[.int .i64 t474, .slice Ao58 t475.length co58, .int .i64 t478] 30 (0, 0))) := ⟨(by rw [hw]; exact (bu_ BK480.out))⟩; replace HB : Aside0 (Below w.heap.size w w59) := ⟨(by rw [hw]; exact (bq_))⟩; clear hw; have q60 : ((ji32) : Int) ≤ ((t447.length : Int) : Int) := od_; obtain ⟨i060, hi060, _, hsz60, _⟩ := info_parts info88; have hroom60 : t447.length ≤ co9 := (Kd.S_reads' HO_6.out).2.1; have hC60 : Kd.C (Kd.slice 3 (Kd.int .i64)) _ Ao9 t447.length t447 := (Kd.S_reads' HO_6.out).2.2; have q060 : (0 : Int) ≤ ((ji32) : Int) := od_; have hcut60 := cut_from (P := Try.prog) 50 88 .i64 Try.underlying50 hi060 1 hsz60 Ao9 t447.length co9 (ji32) q060 q60; have hr60 := Kd.C_drop (m := ((ji32) : Int).toNat) (c := co9) hC60 (by omega) hroom60; obtain ⟨A60, hA60⟩ : ∃ A1, A1 = (if co9 = ((ji32) : Int).toNat then Ao9 else (Ao9 : Option Addr).map (·.add (((ji32) : Int).toNat * 1))) := ⟨_, rfl⟩; obtain ⟨c60, hc60⟩ : ∃ c1, c1 = co9 - ((ji32) : Int).toNat := ⟨_, rfl⟩; have hy60 : y481.length = t447.length - ((ji32) : Int).toNat := (by rw [Ny481.out, List.length_drop] <;> omega); rw [show (t447).drop ((ji32) : Int).toNat = y481 from Ny481.out.symm] at hr60; replace hr60 : Kd.C (Kd.slice 3 (Kd.int .i64)) _ A60 y481.length y481 := (by rw [hA60]; exact hr60); rw [← hy60, ← hA60, ← hc60] at hcut60; have HR484 := am_ hr60; have HC484 := am_ (show y481.length ≤ c60 from by rw [hy60, hc60]; exact Nat.sub_le_sub_right hroom60 _); clear hr60 hC60 hroom60 hi060 hsz60 hc60; have KY60 := am_ hy60; have KA60 := am_ hA60; clear hy60 hA60; have KL60 := am_ (show ((ji32) : Int).toNat ≤ t447.length from by omega); replace q60 := eq_true q60) | ((with_reducible refine gl_ 36 rfl ?_); refine goesM_ (some 108) Try.func36 #[.int .i64 t446, .slice A60 y481.length c60] ?_; (with_reducible refine (impl_ByClauses.calls kj6 t446 _ _ y481 t485 t486 t489 true _ ?side1 ?side2 A38.out).mono ?_); (case side1 => repeat (first | exact y10_ | (with_reducible refine Kd.C_alloc ?_ _) | (with_reducible refine Kd.C_drewN ?_ _) | (with_reducible refine Kd.C_drew ?_))); (case side2 => exact HC484.out); rintro e w61 ⟨v487, rfl, ho0, hb⟩; refine ⟨_, rfl, ?_⟩; replace HO_6 := am_ (Kd.S_below (sq_ HO_6.out) hb); have HO488 := am_ (Kd.R_lower (Kd.R_new' (Kd.R_new' (Kd.R_new' ho0 (Kd.R_lt (rq_ HO_457001.out))) (Kd.R_lt (rq_ HO_464001.out))) (Kd.R_lt (rq_ HO477.out))) (below_size (bq_))); replace HO_457001 := am_ (Kd.R_elder' (rq_ HO_457001.out) (Kd.R_base ho0) hb); replace HO_464001 := am_ (Kd.R_elder' (rq_ HO_464001.out) (Kd.R_base ho0) hb); replace HO477 := am_ (Kd.R_elder' (rq_ HO477.out) (Kd.R_base ho0) hb); replace BK456 := bb_ BK456 hb; replace BK463 := bb_ BK463 hb; replace BK480 := bb_ BK480 hb; replace HR484 := am_ (Kd.C_below y10_ hb); replace HB := bs_ hb; (try clear hb); (try clear hk); (try clear ho0)) | ((with_reducible refine gate_dst (N := 18) rfl ?_); refine boxq_ (N := 18) (cs := #[.int .i64 0, .slice none 0 0, .int .i64 0]) (t := 30) ?_; intro gb491 hg w62 hbox hb; replace HO_6 := am_ (Kd.S_below (sq_ HO_6.out) hb); replace HO_457001 := am_ (Kd.R_below (rq_ HO_457001.out) hb); replace HO_464001 := am_ (Kd.R_below (rq_ HO_464001.out) hb); replace HO477 := am_ (Kd.R_below (rq_ HO477.out) hb); replace HO488 := am_ (Kd.R_below (rq_ HO488.out) hb); replace HR484 := am_ (Kd.C_below y10_ hb); have BK491 := am_ (hbox); have GW491 := gz_ hg; have GE491 := gz_ hg; replace HB := bs_ hb; have NB456_491 := nl_ BK456 hg; have NB491_456 := nr_ BK456 hg; replace BK456 := bb_ BK456 hb; have NB463_491 := nl_ BK463 hg; have NB491_463 := nr_ BK463 hg; replace BK463 := bb_ BK463 hb; have NB480_491 := nl_ BK480 hg; have NB491_480 := nr_ BK480 hg; replace BK480 := bb_ BK480 hb; clear hb hbox hg; have hnb63 := NB491_456.out; have hnc63 := NB456_491.out; have hnb64 := NB491_463.out; have hnc64 := NB463_491.out; have hnb65 := NB491_480.out; have hnc65 := NB480_491.out; have hcz66_0 := cq_ BK491.out 0 (.int .i64 0); have hcz66_1 := cq_ BK491.out 1 (.slice none 0 0); have hcz66_2 := cq_ BK491.out 2 (.int .i64 0); have hfz66_0 := blk_frozen BK491.out 0; have hfz66_1 := blk_frozen BK491.out 1; have hfz66_2 := blk_frozen BK491.out 2; obtain ⟨Ao67, co67, eo67⟩ := Kd.R_slice HO488.out; subst eo67; have hcz68_0 := cq_ BK480.out 0 (.int .i64 t474); have hcz68_1 := cq_ BK480.out 1 (.slice Ao58 t475.length co58); have hcz68_2 := cq_ BK480.out 2 (.int .i64 t478); have hfz68_0 := blk_frozen BK480.out 0; have hfz68_1 := blk_frozen BK480.out 1; have hfz68_2 := blk_frozen BK480.out 2) | ((with_reducible refine gl_ 30 rfl ?_); refine goesM_ (some 114) Try.func30 #[.agg #[.int .i64 t474, .slice Ao58 t475.length co58, .int .i64 t478], .agg #[.int .i64 t485, .slice Ao67 t486.length co67, .int .i64 t489]] ?_; (with_reducible refine (impl_BothOf.calls kj6 t474 _ _ t475 t478 t485 _ _ t486 t489 t492 t493 t496 true _ ?side1 ?side2 ?side3 ?side4 A39.out).mono ?_); (case side1 => refine (Kd.R_reads' (e := 75) (base := w.heap.size) (ok := fun k_ => ((some k_ ≠ (.slice Ao13 t451.length co13 : Value).ownBlock ∧ some k_ ≠ (.slice Ao18 t458.length co18 : Value).ownBlock) ∧ some k_ ≠ (.slice Ao67 t486.length co67 : Value).ownBlock)) (n := t475.length) (c := co58) ?_).2.2; exact (rg_ HO477 BK491)); (case side2 => exact (Kd.R_reads' HO477.out).2.1); (case side3 => refine (Kd.R_reads' (e := 75) (base := w.heap.size) (ok := fun k_ => (((True ∧ some k_ ≠ (.slice Ao13 t451.length co13 : Value).ownBlock) ∧ some k_ ≠ (.slice Ao18 t458.length co18 : Value).ownBlock) ∧ some k_ ≠ (.slice Ao58 t475.length co58 : Value).ownBlock)) (n := t486.length) (c := co67) ?_).2.2; exact (rg_ HO488 BK491)); (case side4 => exact (Kd.R_reads' HO488.out).2.1); rintro e w69 ⟨v494, rfl, ho0, hb⟩; refine ⟨_, rfl, ?_⟩; replace HO_6 := am_ (Kd.S_below (by (with_reducible repeat (first | apply Kd.S_alloc | apply Kd.S_drewN | apply Kd.S_drew)); exact (sg_ HO_6 BK491)) hb); have HO495 := am_ (Kd.R_lower (Kd.R_new' (Kd.R_new' (Kd.R_new' (Kd.R_new' ho0 (Kd.R_lt (rg_ HO_457001 BK491))) (Kd.R_lt (rg_ HO_464001 BK491))) (Kd.R_lt (rg_ HO477 BK491))) (Kd.R_lt (rg_ HO488 BK491))) (below_size (bq_))); replace HO_457001 := am_ (Kd.R_elder' (rg_ HO_457001 BK491) (Kd.R_base ho0) hb); replace HO_464001 := am_ (Kd.R_elder' (rg_ HO_464001 BK491) (Kd.R_base ho0) hb); replace HO477 := am_ (Kd.R_elder' (rg_ HO477 BK491) (Kd.R_base ho0) hb); replace HO488 := am_ (Kd.R_elder' (rg_ HO488 BK491) (Kd.R_base ho0) hb); replace BK456 := am_ (blk_below (bu_ BK456.out) hb); replace BK463 := am_ (blk_below (bu_ BK463.out) hb); replace BK480 := am_ (blk_below (bu_ BK480.out) hb); replace BK491 := am_ (blk_below (bu_ BK491.out) hb); replace HB := bs_ hb; (try clear hb); (try clear hk); (try clear ho0)) | ((with_reducible refine gate_dst (N := 20) rfl ?_); refine boxq_ (N := 20) (cs := #[.int .i64 0, .slice none 0 0, .int .i64 0]) (t := 30) ?_; intro gb498 hg w70 hbox hb; replace HO_6 := am_ (Kd.S_below (sq_ HO_6.out) hb); replace HO_457001 := am_ (Kd.R_below (rq_ HO_457001.out) hb); replace HO_464001 := am_ (Kd.R_below (rq_ HO_464001.out) hb); replace HO477 := am_ (Kd.R_below (rq_ HO477.out) hb); replace HO488 := am_ (Kd.R_below (rq_ HO488.out) hb); replace HO495 := am_ (Kd.R_below (rq_ HO495.out) hb); have BK498 := am_ (hbox); have GW498 := gz_ hg; have GE498 := gz_ hg; replace HB := bs_ hb; have NB456_498 := nl_ BK456 hg; have NB498_456 := nr_ BK456 hg; replace BK456 := bb_ BK456 hb; have NB463_498 := nl_ BK463 hg; have NB498_463 := nr_ BK463 hg; replace BK463 := bb_ BK463 hb; have NB480_498 := nl_ BK480 hg; have NB498_480 := nr_ BK480 hg; replace BK480 := bb_ BK480 hb; have NB491_498 := nl_ BK491 hg; have NB498_491 := nr_ BK491 hg; replace BK491 := bb_ BK491 hb; clear hb hbox hg; have hnb71 := NB498_456.out; have hnc71 := NB456_498.out; have hnb72 := NB498_463.out; have hnc72 := NB463_498.out; have hnb73 := NB498_480.out; have hnc73 := NB480_498.out; have hnb74 := NB498_491.out; have hnc74 := NB491_498.out; have hcz75_0 := cq_ BK498.out 0 (.int .i64 0); have hcz75_1 := cq_ BK498.out 1 (.slice none 0 0); have hcz75_2 := cq_ BK498.out 2 (.int .i64 0); have hfz75_0 := blk_frozen BK498.out 0; have hfz75_1 := blk_frozen BK498.out 1; have hfz75_2 := blk_frozen BK498.out 2; obtain ⟨Ao76, co76, eo76⟩ := Kd.R_slice HO495.out; subst eo76; have hcz77_0 := cq_ BK456.out 0 (.int .i64 t450); have hcz77_1 := cq_ BK456.out 1 (.slice Ao13 t451.length co13); have hcz77_2 := cq_ BK456.out 2 (.int .i64 t454); have hfz77_0 := blk_frozen BK456.out 0; have hfz77_1 := blk_frozen BK456.out 1; have hfz77_2 := blk_frozen BK456.out 2) | (go_at_call 42; (with_reducible refine (laws_sameDiagram.calls kj6 t492 _ _ t493 t496 t450 _ _ t451 t454 true _ ?side1 ?side2 ?side3 ?side4 A46.out).mono ?_); (case side1 => refine (Kd.R_reads' (e := 75) (base := w.heap.size) (ok := fun k_ => ((((True ∧ some k_ ≠ (.slice Ao13 t451.length co13 : Value).ownBlock) ∧ some k_ ≠ (.slice Ao18 t458.length co18 : Value).ownBlock) ∧ some k_ ≠ (.slice Ao58 t475.length co58 : Value).ownBlock) ∧ some k_ ≠ (.slice Ao67 t486.length co67 : Value).ownBlock)) (n := t493.length) (c := co76) ?_).2.2; exact (rg_ HO495 BK498)); (case side2 => exact (Kd.R_reads' HO495.out).2.1); (case side3 => refine (Kd.R_reads' (e := 75) (base := w.heap.size) (ok := fun k_ => (((some k_ ≠ (.slice Ao18 t458.length co18 : Value).ownBlock ∧ some k_ ≠ (.slice Ao58 t475.length co58 : Value).ownBlock) ∧ some k_ ≠ (.slice Ao67 t486.length co67 : Value).ownBlock) ∧ some k_ ≠ (.slice Ao76 t493.length co76 : Value).ownBlock)) (n := t451.length) (c := co13) ?_).2.2; exact (rg_ HO_457001 BK498)); (case side4 => exact (Kd.R_reads' HO_457001.out).2.1); rintro e w78 ⟨rfl, hb⟩; replace HO_6 := am_ (Kd.S_below (by (with_reducible repeat (first | apply Kd.S_alloc | apply Kd.S_drewN | apply Kd.S_drew)); exact (sg_ HO_6 BK498)) hb); replace HO_457001 := am_ (Kd.R_below (rg_ HO_457001 BK498) hb); replace HO_464001 := am_ (Kd.R_below (rg_ HO_464001 BK498) hb); replace HO477 := am_ (Kd.R_below (rg_ HO477 BK498) hb); replace HO488 := am_ (Kd.R_below (rg_ HO488 BK498) hb); replace HO495 := am_ (Kd.R_below (rg_ HO495 BK498) hb); replace BK456 := am_ (blk_below (bu_ BK456.out) hb); replace BK463 := am_ (blk_below (bu_ BK463.out) hb); replace BK480 := am_ (blk_below (bu_ BK480.out) hb); replace BK491 := am_ (blk_below (bu_ BK491.out) hb); replace BK498 := am_ (blk_below (bu_ BK498.out) hb); replace HB := bs_ hb; (try clear hb); (try clear hk)))
                  go_meet
                  case rel => exact ⟨_, H', ⟨by have := HJ6.out; first | omega | exact Nat.le_refl _⟩, ⟨rq_ (Kd.R_mono HO_457001.out (fun _ hk => hk.1.1.1))⟩, ⟨rq_ (Kd.R_mono HO_464001.out (fun _ hk => hk.1.1.1))⟩, ⟨bk_ BK456.out⟩, ⟨bk_ BK463.out⟩, ⟨bq_⟩⟩
                ·replace c47 := Bool.eq_false_iff.mpr c47
                 subst c47
                 have H1 : (some false) = some r := by rw [if_neg (show ¬ (false = true) by decide)] at H; exact H
                 clear H
                 have H := H1
                 clear H1
                 exact absurd (Option.some.inj H).symm (by rw [hr_.out]; simp)
               ·replace c45 := Bool.eq_false_iff.mpr c45
                subst c45
                have H1 : (some false) = some r := by rw [if_neg (show ¬ (false = true) by decide)] at H; exact H
                clear H
                have H := H1
                clear H1
                exact absurd (Option.some.inj H).symm (by rw [hr_.out]; simp)
              ·replace c44 := Bool.eq_false_iff.mpr c44
               subst c44
               have H1 : (some false) = some r := by rw [if_neg (show ¬ (false = true) by decide)] at H; exact H
               clear H
               have H := H1
               clear H1
               exact absurd (Option.some.inj H).symm (by rw [hr_.out]; simp)
             ·replace c43 := Bool.eq_false_iff.mpr c43
              subst c43
              have H1 : (some false) = some r := by rw [if_neg (show ¬ (false = true) by decide)] at H; exact H
              clear H
              have H := H1
              clear H1
              exact absurd (Option.some.inj H).symm (by rw [hr_.out]; simp)
            ·rw [if_neg c42] at H
             have c42b0 : (t465 == t467) = false := beq_eq_false_iff_ne.mpr c42
             have c42b1 : (t465 != t467) = true := bne_iff_ne.mpr c42
             exact absurd (Option.some.inj H).symm (by rw [hr_.out]; simp)
           ·replace c41 := Bool.eq_false_iff.mpr c41
            subst c41
            have H1 : (some false) = some r := by rw [if_neg (show ¬ (false = true) by decide)] at H; exact H
            clear H
            have H := H1
            clear H1
            exact absurd (Option.some.inj H).symm (by rw [hr_.out]; simp)
          ·replace c40 := Bool.eq_false_iff.mpr c40
           subst c40
           have H1 : (some false) = some r := by rw [if_neg (show ¬ (false = true) by decide)] at H; exact H
           clear H
           have H := H1
           clear H1
           exact absurd (Option.some.inj H).symm (by rw [hr_.out]; simp)
         ·rw [if_neg c34] at H
          exact absurd H (by simp)
        ·rw [if_neg c33] at H
         exact absurd H (by simp)
      ·replace c27 := Bool.eq_false_iff.mpr c27
       subst c27
       have H1 : (laws_FnByClauses.j1 kj6 l1) = some r := by rw [if_neg (show ¬ (false = true) by decide)] at H; exact H
       clear H
       have H := H1
       clear H1
       as_aux_lemma =>
        have H' := am_ H
        clear H
        go_wp2
        go_meet
        case rel => exact ⟨_, H', ⟨by have := HJ6.out; first | omega | exact Nat.le_refl _⟩, ⟨rq_ HO_457001.out⟩, ⟨rq_ HO_464001.out⟩, ⟨bk_ BK456.out⟩, ⟨bk_ BK463.out⟩, ⟨bq_⟩⟩
     case rest =>
      clear HC26
      try clear c1
      try clear c2
      try clear p2
      try clear c3
      try clear c3b0
      try clear c4
      try clear c5
      try clear q5
      try clear c6
      try clear p6
      try clear q6
      try clear c7
      try clear c11
      try clear c15
      try clear c16
      try clear c19
      try clear c19b0
      try clear c19b1
      try clear c19b2
      try clear c21
      try clear c25
      try clear c27
      try clear c30
      try clear c31
      try clear c31b0
      try clear c31b1
      try clear c33
      try clear c33b0
      try clear c33b1
      try clear c34
      try clear c34b0
      try clear c34b1
      try clear c36
      try clear c36b0
      try clear c37
      try clear c37b0
      try clear c40
      try clear c41
      try clear c42
      try clear c42b0
      try clear c42b1
      try clear c43
      try clear c44
      try clear c45
      try clear c47
      try clear c48
      try clear c49
      try clear c50
      try clear c51
      try clear q52
      try clear c55
      try clear c56
      try clear c60
      try clear q60
      try clear c63
      try clear c64
      try clear p64
      try clear c65
      try clear c71
      try clear c72
      try clear c73
      try clear c74
      try clear hcz12_0
      try clear hcz12_1
      try clear hcz12_2
      try clear hcz17_0
      try clear hcz17_1
      try clear hcz17_2
      try clear hcz22_0
      try clear hcz22_1
      try clear hcz22_2
      try clear hcz23_0
      try clear hcz23_1
      try clear hcz23_2
      try clear hcz49_0
      try clear hcz49_1
      try clear hcz49_2
      try clear hcz57_0
      try clear hcz57_1
      try clear hcz57_2
      try clear hcz66_0
      try clear hcz66_1
      try clear hcz66_2
      try clear hcz68_0
      try clear hcz68_1
      try clear hcz68_2
      try clear hcz75_0
      try clear hcz75_1
      try clear hcz75_2
      try clear hcz77_0
      try clear hcz77_1
      try clear hcz77_2
      try clear hfz12_0
      try clear hfz12_1
      try clear hfz12_2
      try clear hfz17_0
      try clear hfz17_1
      try clear hfz17_2
      try clear hfz22_0
      try clear hfz22_1
      try clear hfz22_2
      try clear hfz23_0
      try clear hfz23_1
      try clear hfz23_2
      try clear hfz49_0
      try clear hfz49_1
      try clear hfz49_2
      try clear hfz57_0
      try clear hfz57_1
      try clear hfz57_2
      try clear hfz66_0
      try clear hfz66_1
      try clear hfz66_2
      try clear hfz68_0
      try clear hfz68_1
      try clear hfz68_2
      try clear hfz75_0
      try clear hfz75_1
      try clear hfz75_2
      try clear hfz77_0
      try clear hfz77_1
      try clear hfz77_2
      try clear p2
      try clear p6
      try clear q060
      try clear q52
      try clear q60
      obtain ⟨kq, HA, HJ25, HO_457001, HO_464001, BK456, BK463, HB⟩ := hcut
      cases kq with
      | zero => exact absurd HA.out (by simp [laws_FnByClauses.j1])
      | succ kj25 =>
       have H := HA.out
       clear HA
       simp only [laws_FnByClauses.j1] at H
       replace H := Option.bind_eq_some_iff.mp H
       obtain ⟨⟨t500, t501, t504, t505, t506⟩, A790, H⟩ := H
       replace H : ((impl_FixVar.f kj25 t500 t501 t504 t505 t506).bind fun bt508 => ((spec_FixVar.f kj25 t500 t501 t504 t505 t506).bind fun bt515 => ((spec_DrawBothOf.f kj25 l1).bind fun bt522 => ((impl_BothOf.f kj25 bt522.1 bt522.2.1 bt522.2.2.1 bt522.2.2.2.1 bt522.2.2.2.2.1 bt522.2.2.2.2.2).bind fun bt534 => ((spec_BothOf.f kj25 bt522.1 bt522.2.1 bt522.2.2.1 bt522.2.2.2.1 bt522.2.2.2.2.1 bt522.2.2.2.2.2).bind fun bt541 => (if (bt508.2.2.2 != bt515.2.2.2) = true then (laws_FnByClauses.j2 kj25 t505 t506 bt508.2.2.2 true t500 t501 t504 bt508.1 bt508.2.1 bt508.2.2.1) else ((laws_sameDiagram.f kj25 bt508.1 bt508.2.1 bt508.2.2.1 bt515.1 bt515.2.1 bt515.2.2.1).bind fun t548 => (if t548 = true then (if (bt534.2.2.2 != bt541.2.2.2) = true then (laws_FnByClauses.j2 kj25 t505 t506 bt508.2.2.2 true t500 t501 t504 bt508.1 bt508.2.1 bt508.2.2.1) else ((laws_sameDiagram.f kj25 bt534.1 bt534.2.1 bt534.2.2.1 bt541.1 bt541.2.1 bt541.2.2.1).bind fun t549 => (laws_FnByClauses.j2 kj25 t505 t506 bt508.2.2.2 (!t549) t500 t501 t504 bt508.1 bt508.2.1 bt508.2.2.1))) else (laws_FnByClauses.j2 kj25 t505 t506 bt508.2.2.2 true t500 t501 t504 bt508.1 bt508.2.1 bt508.2.2.1))))))))) = some r := H
       have A79 := am_ A790
       clear A790
       replace H := Option.bind_eq_some_iff.mp H
       obtain ⟨⟨t508, t509, t512, t513⟩, A800, H⟩ := H
       replace H : ((spec_FixVar.f kj25 t500 t501 t504 t505 t506).bind fun bt515 => ((spec_DrawBothOf.f kj25 l1).bind fun bt522 => ((impl_BothOf.f kj25 bt522.1 bt522.2.1 bt522.2.2.1 bt522.2.2.2.1 bt522.2.2.2.2.1 bt522.2.2.2.2.2).bind fun bt534 => ((spec_BothOf.f kj25 bt522.1 bt522.2.1 bt522.2.2.1 bt522.2.2.2.1 bt522.2.2.2.2.1 bt522.2.2.2.2.2).bind fun bt541 => (if (t513 != bt515.2.2.2) = true then (laws_FnByClauses.j2 kj25 t505 t506 t513 true t500 t501 t504 t508 t509 t512) else ((laws_sameDiagram.f kj25 t508 t509 t512 bt515.1 bt515.2.1 bt515.2.2.1).bind fun t548 => (if t548 = true then (if (bt534.2.2.2 != bt541.2.2.2) = true then (laws_FnByClauses.j2 kj25 t505 t506 t513 true t500 t501 t504 t508 t509 t512) else ((laws_sameDiagram.f kj25 bt534.1 bt534.2.1 bt534.2.2.1 bt541.1 bt541.2.1 bt541.2.2.1).bind fun t549 => (laws_FnByClauses.j2 kj25 t505 t506 t513 (!t549) t500 t501 t504 t508 t509 t512))) else (laws_FnByClauses.j2 kj25 t505 t506 t513 true t500 t501 t504 t508 t509 t512)))))))) = some r := H
       have A80 := am_ A800
       clear A800
       replace H := Option.bind_eq_some_iff.mp H
       obtain ⟨⟨t515, t516, t519, t520⟩, A810, H⟩ := H
       replace H : ((spec_DrawBothOf.f kj25 l1).bind fun bt522 => ((impl_BothOf.f kj25 bt522.1 bt522.2.1 bt522.2.2.1 bt522.2.2.2.1 bt522.2.2.2.2.1 bt522.2.2.2.2.2).bind fun bt534 => ((spec_BothOf.f kj25 bt522.1 bt522.2.1 bt522.2.2.1 bt522.2.2.2.1 bt522.2.2.2.2.1 bt522.2.2.2.2.2).bind fun bt541 => (if (t513 != t520) = true then (laws_FnByClauses.j2 kj25 t505 t506 t513 true t500 t501 t504 t508 t509 t512) else ((laws_sameDiagram.f kj25 t508 t509 t512 t515 t516 t519).bind fun t548 => (if t548 = true then (if (bt534.2.2.2 != bt541.2.2.2) = true then (laws_FnByClauses.j2 kj25 t505 t506 t513 true t500 t501 t504 t508 t509 t512) else ((laws_sameDiagram.f kj25 bt534.1 bt534.2.1 bt534.2.2.1 bt541.1 bt541.2.1 bt541.2.2.1).bind fun t549 => (laws_FnByClauses.j2 kj25 t505 t506 t513 (!t549) t500 t501 t504 t508 t509 t512))) else (laws_FnByClauses.j2 kj25 t505 t506 t513 true t500 t501 t504 t508 t509 t512))))))) = some r := H
       have A81 := am_ A810
       clear A810
       replace H := Option.bind_eq_some_iff.mp H
       obtain ⟨⟨t522, t523, t526, t527, t528, t531⟩, A820, H⟩ := H
       replace H : ((impl_BothOf.f kj25 t522 t523 t526 t527 t528 t531).bind fun bt534 => ((spec_BothOf.f kj25 t522 t523 t526 t527 t528 t531).bind fun bt541 => (if (t513 != t520) = true then (laws_FnByClauses.j2 kj25 t505 t506 t513 true t500 t501 t504 t508 t509 t512) else ((laws_sameDiagram.f kj25 t508 t509 t512 t515 t516 t519).bind fun t548 => (if t548 = true then (if (bt534.2.2.2 != bt541.2.2.2) = true then (laws_FnByClauses.j2 kj25 t505 t506 t513 true t500 t501 t504 t508 t509 t512) else ((laws_sameDiagram.f kj25 bt534.1 bt534.2.1 bt534.2.2.1 bt541.1 bt541.2.1 bt541.2.2.1).bind fun t549 => (laws_FnByClauses.j2 kj25 t505 t506 t513 (!t549) t500 t501 t504 t508 t509 t512))) else (laws_FnByClauses.j2 kj25 t505 t506 t513 true t500 t501 t504 t508 t509 t512)))))) = some r := H
       have A82 := am_ A820
       clear A820
       replace H := Option.bind_eq_some_iff.mp H
       obtain ⟨⟨t534, t535, t538, t539⟩, A830, H⟩ := H
       replace H : ((spec_BothOf.f kj25 t522 t523 t526 t527 t528 t531).bind fun bt541 => (if (t513 != t520) = true then (laws_FnByClauses.j2 kj25 t505 t506 t513 true t500 t501 t504 t508 t509 t512) else ((laws_sameDiagram.f kj25 t508 t509 t512 t515 t516 t519).bind fun t548 => (if t548 = true then (if (t539 != bt541.2.2.2) = true then (laws_FnByClauses.j2 kj25 t505 t506 t513 true t500 t501 t504 t508 t509 t512) else ((laws_sameDiagram.f kj25 t534 t535 t538 bt541.1 bt541.2.1 bt541.2.2.1).bind fun t549 => (laws_FnByClauses.j2 kj25 t505 t506 t513 (!t549) t500 t501 t504 t508 t509 t512))) else (laws_FnByClauses.j2 kj25 t505 t506 t513 true t500 t501 t504 t508 t509 t512))))) = some r := H
       have A83 := am_ A830
       clear A830
       replace H := Option.bind_eq_some_iff.mp H
       obtain ⟨⟨t541, t542, t545, t546⟩, A840, H⟩ := H
       replace H : (if (t513 != t520) = true then (laws_FnByClauses.j2 kj25 t505 t506 t513 true t500 t501 t504 t508 t509 t512) else ((laws_sameDiagram.f kj25 t508 t509 t512 t515 t516 t519).bind fun t548 => (if t548 = true then (if (t539 != t546) = true then (laws_FnByClauses.j2 kj25 t505 t506 t513 true t500 t501 t504 t508 t509 t512) else ((laws_sameDiagram.f kj25 t534 t535 t538 t541 t542 t545).bind fun t549 => (laws_FnByClauses.j2 kj25 t505 t506 t513 (!t549) t500 t501 t504 t508 t509 t512))) else (laws_FnByClauses.j2 kj25 t505 t506 t513 true t500 t501 t504 t508 t509 t512)))) = some r := H
       have A84 := am_ A840
       clear A840
       have HC85 := am_ H
       clear H
       go_upto_region 23 with (first | ((with_reducible refine gl_ 52 rfl ?_); refine goesM_ (some 148) Try.func52 #[.slice A1 l1.length c1] ?_; (with_reducible refine (spec_DrawFixVar.calls kj25 _ _ l1 t500 t501 t504 t505 t506 _ ?side1 ?side2 A79.out).mono ?_); (case side1 => exact cm_ (Kd.C_below HR1.out HB.out)); (case side2 => exact HC1.out); rintro e w86 ⟨v502, rfl, ho0, hb⟩; refine ⟨_, rfl, ?_⟩; have HO503 := am_ (Kd.R_lower (Kd.R_new' (Kd.R_new' ho0 (Kd.R_lt (rq_ HO_457001.out))) (Kd.R_lt (rq_ HO_464001.out))) (below_size (bq_))); replace HO_457001 := am_ (Kd.R_elder' (rq_ HO_457001.out) (Kd.R_base ho0) hb); replace HO_464001 := am_ (Kd.R_elder' (rq_ HO_464001.out) (Kd.R_base ho0) hb); replace BK456 := bb_ BK456 hb; replace BK463 := bb_ BK463 hb; replace HB := bs_ hb; (try clear hb); (try clear hk); (try clear ho0)) | ((with_reducible refine gate_dst (N := 22) rfl ?_); refine boxq_ (N := 22) (cs := #[.int .i64 0, .slice none 0 0, .int .i64 0]) (t := 30) ?_; intro gb507 hg w87 hbox hb; replace HO_457001 := am_ (Kd.R_below (rq_ HO_457001.out) hb); replace HO_464001 := am_ (Kd.R_below (rq_ HO_464001.out) hb); replace HO503 := am_ (Kd.R_below (rq_ HO503.out) hb); have BK507 := am_ (hbox); have GW507 := gz_ hg; have GE507 := gz_ hg; replace HB := bs_ hb; have NB456_507 := nl_ BK456 hg; have NB507_456 := nr_ BK456 hg; replace BK456 := bb_ BK456 hb; have NB463_507 := nl_ BK463 hg; have NB507_463 := nr_ BK463 hg; replace BK463 := bb_ BK463 hb; clear hb hbox hg; have hnb88 := NB507_456.out; have hnc88 := NB456_507.out; have hnb89 := NB507_463.out; have hnc89 := NB463_507.out; have hcz90_0 := cq_ BK507.out 0 (.int .i64 0); have hcz90_1 := cq_ BK507.out 1 (.slice none 0 0); have hcz90_2 := cq_ BK507.out 2 (.int .i64 0); have hfz90_0 := blk_frozen BK507.out 0; have hfz90_1 := blk_frozen BK507.out 1; have hfz90_2 := blk_frozen BK507.out 2; obtain ⟨Ao91, co91, eo91⟩ := Kd.R_slice HO503.out; subst eo91) | ((with_reducible refine gl_ 32 rfl ?_); refine goesM_ (some 156) Try.func32 #[.agg #[.int .i64 t500, .slice Ao91 t501.length co91, .int .i64 t504], .int .i64 t505, .bool t506] ?_; (with_reducible refine (impl_FixVar.calls kj25 t500 _ _ t501 t504 t505 t506 t508 t509 t512 t513 _ ?side1 ?side2 A80.out).mono ?_); (case side1 => refine (Kd.R_reads' (e := 75) (base := w.heap.size) (ok := fun k_ => ((True ∧ some k_ ≠ (.slice Ao13 t451.length co13 : Value).ownBlock) ∧ some k_ ≠ (.slice Ao18 t458.length co18 : Value).ownBlock)) (n := t501.length) (c := co91) ?_).2.2; exact (rg_ HO503 BK507)); (case side2 => exact (Kd.R_reads' HO503.out).2.1); rintro e w92 ⟨v510, rfl, ho0, hb⟩; refine ⟨_, rfl, ?_⟩; have HO511 := am_ (Kd.R_lower (Kd.R_new' (Kd.R_new' (Kd.R_new' ho0 (Kd.R_lt (rg_ HO_457001 BK507))) (Kd.R_lt (rg_ HO_464001 BK507))) (Kd.R_lt (rg_ HO503 BK507))) (below_size (bq_))); replace HO_457001 := am_ (Kd.R_elder' (rg_ HO_457001 BK507) (Kd.R_base ho0) hb); replace HO_464001 := am_ (Kd.R_elder' (rg_ HO_464001 BK507) (Kd.R_base ho0) hb); replace HO503 := am_ (Kd.R_elder' (rg_ HO503 BK507) (Kd.R_base ho0) hb); replace BK456 := am_ (blk_below (bu_ BK456.out) hb); replace BK463 := am_ (blk_below (bu_ BK463.out) hb); replace BK507 := am_ (blk_below (bu_ BK507.out) hb); replace HB := bs_ hb; (try clear hb); (try clear hk); (try clear ho0)) | ((with_reducible refine gate_dst (N := 25) rfl ?_); refine boxq_ (N := 25) (cs := #[.int .i64 0, .slice none 0 0, .int .i64 0]) (t := 30) ?_; intro gb514 hg w93 hbox hb; replace HO_457001 := am_ (Kd.R_below (rq_ HO_457001.out) hb); replace HO_464001 := am_ (Kd.R_below (rq_ HO_464001.out) hb); replace HO503 := am_ (Kd.R_below (rq_ HO503.out) hb); replace HO511 := am_ (Kd.R_below (rq_ HO511.out) hb); have BK514 := am_ (hbox); have GW514 := gz_ hg; have GE514 := gz_ hg; replace HB := bs_ hb; have NB456_514 := nl_ BK456 hg; have NB514_456 := nr_ BK456 hg; replace BK456 := bb_ BK456 hb; have NB463_514 := nl_ BK463 hg; have NB514_463 := nr_ BK463 hg; replace BK463 := bb_ BK463 hb; have NB507_514 := nl_ BK507 hg; have NB514_507 := nr_ BK507 hg; replace BK507 := bb_ BK507 hb; clear hb hbox hg; have hnb94 := NB514_456.out; have hnc94 := NB456_514.out; have hnb95 := NB514_463.out; have hnc95 := NB463_514.out; have hnb96 := NB514_507.out; have hnc96 := NB507_514.out; have hcz97_0 := cq_ BK514.out 0 (.int .i64 0); have hcz97_1 := cq_ BK514.out 1 (.slice none 0 0); have hcz97_2 := cq_ BK514.out 2 (.int .i64 0); have hfz97_0 := blk_frozen BK514.out 0; have hfz97_1 := blk_frozen BK514.out 1; have hfz97_2 := blk_frozen BK514.out 2; obtain ⟨Ao98, co98, eo98⟩ := Kd.R_slice HO511.out; subst eo98; have hcz99_0 := cq_ BK507.out 0 (.int .i64 t500); have hcz99_1 := cq_ BK507.out 1 (.slice Ao91 t501.length co91); have hcz99_2 := cq_ BK507.out 2 (.int .i64 t504); have hfz99_0 := blk_frozen BK507.out 0; have hfz99_1 := blk_frozen BK507.out 1; have hfz99_2 := blk_frozen BK507.out 2) | ((with_reducible refine gl_ 31 rfl ?_); refine goesM_ (some 163) Try.func31 #[.agg #[.int .i64 t500, .slice Ao91 t501.length co91, .int .i64 t504], .int .i64 t505, .bool t506] ?_; (with_reducible refine (spec_FixVar.calls kj25 t500 _ _ t501 t504 t505 t506 t515 t516 t519 t520 _ ?side1 ?side2 A81.out).mono ?_); (case side1 => refine (Kd.R_reads' (e := 75) (base := w.heap.size) (ok := fun k_ => (((True ∧ some k_ ≠ (.slice Ao13 t451.length co13 : Value).ownBlock) ∧ some k_ ≠ (.slice Ao18 t458.length co18 : Value).ownBlock) ∧ some k_ ≠ (.slice Ao98 t509.length co98 : Value).ownBlock)) (n := t501.length) (c := co91) ?_).2.2; exact (rg_ HO503 BK514)); (case side2 => exact (Kd.R_reads' HO503.out).2.1); rintro e w100 ⟨v517, rfl, ho0, hb⟩; refine ⟨_, rfl, ?_⟩; have HO518 := am_ (Kd.R_lower (Kd.R_new' (Kd.R_new' (Kd.R_new' (Kd.R_new' ho0 (Kd.R_lt (rg_ HO_457001 BK514))) (Kd.R_lt (rg_ HO_464001 BK514))) (Kd.R_lt (rg_ HO503 BK514))) (Kd.R_lt (rg_ HO511 BK514))) (below_size (bq_))); replace HO_457001 := am_ (Kd.R_elder' (rg_ HO_457001 BK514) (Kd.R_base ho0) hb); replace HO_464001 := am_ (Kd.R_elder' (rg_ HO_464001 BK514) (Kd.R_base ho0) hb); replace HO503 := am_ (Kd.R_elder' (rg_ HO503 BK514) (Kd.R_base ho0) hb); replace HO511 := am_ (Kd.R_elder' (rg_ HO511 BK514) (Kd.R_base ho0) hb); replace BK456 := am_ (blk_below (bu_ BK456.out) hb); replace BK463 := am_ (blk_below (bu_ BK463.out) hb); replace BK507 := am_ (blk_below (bu_ BK507.out) hb); replace BK514 := am_ (blk_below (bu_ BK514.out) hb); replace HB := bs_ hb; (try clear hb); (try clear hk); (try clear ho0)) | ((with_reducible refine gate_dst (N := 27) rfl ?_); refine boxq_ (N := 27) (cs := #[.int .i64 0, .slice none 0 0, .int .i64 0]) (t := 30) ?_; intro gb521 hg w101 hbox hb; replace HO_457001 := am_ (Kd.R_below (rq_ HO_457001.out) hb); replace HO_464001 := am_ (Kd.R_below (rq_ HO_464001.out) hb); replace HO503 := am_ (Kd.R_below (rq_ HO503.out) hb); replace HO511 := am_ (Kd.R_below (rq_ HO511.out) hb); replace HO518 := am_ (Kd.R_below (rq_ HO518.out) hb); have BK521 := am_ (hbox); have GW521 := gz_ hg; have GE521 := gz_ hg; replace HB := bs_ hb; have NB456_521 := nl_ BK456 hg; have NB521_456 := nr_ BK456 hg; replace BK456 := bb_ BK456 hb; have NB463_521 := nl_ BK463 hg; have NB521_463 := nr_ BK463 hg; replace BK463 := bb_ BK463 hb; have NB507_521 := nl_ BK507 hg; have NB521_507 := nr_ BK507 hg; replace BK507 := bb_ BK507 hb; have NB514_521 := nl_ BK514 hg; have NB521_514 := nr_ BK514 hg; replace BK514 := bb_ BK514 hb; clear hb hbox hg; have hnb102 := NB521_456.out; have hnc102 := NB456_521.out; have hnb103 := NB521_463.out; have hnc103 := NB463_521.out; have hnb104 := NB521_507.out; have hnc104 := NB507_521.out; have hnb105 := NB521_514.out; have hnc105 := NB514_521.out; have hcz106_0 := cq_ BK521.out 0 (.int .i64 0); have hcz106_1 := cq_ BK521.out 1 (.slice none 0 0); have hcz106_2 := cq_ BK521.out 2 (.int .i64 0); have hfz106_0 := blk_frozen BK521.out 0; have hfz106_1 := blk_frozen BK521.out 1; have hfz106_2 := blk_frozen BK521.out 2; obtain ⟨Ao107, co107, eo107⟩ := Kd.R_slice HO518.out; subst eo107) | ((with_reducible refine gl_ 53 rfl ?_); refine goesM_ (some 168) Try.func53 #[.slice A1 l1.length c1] ?_; (with_reducible refine (spec_DrawBothOf.calls kj25 _ _ l1 t522 t523 t526 t527 t528 t531 _ ?side1 ?side2 A82.out).mono ?_); (case side1 => exact Kd.C_below HR1.out (bq_)); (case side2 => exact HC1.out); rintro e w108 ⟨v524, v529, rfl, ho0, ho1, hb⟩; refine ⟨_, rfl, ?_⟩; have HO525 := am_ (Kd.R_lower (Kd.R_new' (Kd.R_new' (Kd.R_new' (Kd.R_new' (Kd.R_new' ho0 (Kd.R_lt (rg_ HO_457001 BK521))) (Kd.R_lt (rg_ HO_464001 BK521))) (Kd.R_lt (rg_ HO503 BK521))) (Kd.R_lt (rg_ HO511 BK521))) (Kd.R_lt (rg_ HO518 BK521))) (below_size (bq_))); have HO530 := am_ (Kd.R_lower (Kd.R_new' (Kd.R_new' (Kd.R_new' (Kd.R_new' (Kd.R_new' ho1 (Kd.R_lt (rg_ HO_457001 BK521))) (Kd.R_lt (rg_ HO_464001 BK521))) (Kd.R_lt (rg_ HO503 BK521))) (Kd.R_lt (rg_ HO511 BK521))) (Kd.R_lt (rg_ HO518 BK521))) (below_size (bq_))); replace HO_457001 := am_ (Kd.R_mono (Kd.R_told (Kd.R_told (Kd.R_old (rg_ HO_457001 BK521) hb) (Kd.R_base ho0)) (Kd.R_base ho1)) (fun _ h_ => h_.1)); replace HO_464001 := am_ (Kd.R_mono (Kd.R_told (Kd.R_told (Kd.R_old (rg_ HO_464001 BK521) hb) (Kd.R_base ho0)) (Kd.R_base ho1)) (fun _ h_ => h_.1)); replace HO503 := am_ (Kd.R_mono (Kd.R_told (Kd.R_told (Kd.R_old (rg_ HO503 BK521) hb) (Kd.R_base ho0)) (Kd.R_base ho1)) (fun _ h_ => h_.1)); replace HO511 := am_ (Kd.R_mono (Kd.R_told (Kd.R_told (Kd.R_old (rg_ HO511 BK521) hb) (Kd.R_base ho0)) (Kd.R_base ho1)) (fun _ h_ => h_.1)); replace HO518 := am_ (Kd.R_mono (Kd.R_told (Kd.R_told (Kd.R_old (rg_ HO518 BK521) hb) (Kd.R_base ho0)) (Kd.R_base ho1)) (fun _ h_ => h_.1)); replace BK456 := am_ (blk_below (bu_ BK456.out) hb); replace BK463 := am_ (blk_below (bu_ BK463.out) hb); replace BK507 := am_ (blk_below (bu_ BK507.out) hb); replace BK514 := am_ (blk_below (bu_ BK514.out) hb); replace BK521 := am_ (blk_below (bu_ BK521.out) hb); replace HB := bs_ hb; (try clear hb); (try clear hk); (try clear ho0); (try clear ho1)) | ((with_reducible refine gate_dst (N := 29) rfl ?_); refine boxq_ (N := 29) (cs := #[.int .i64 0, .slice none 0 0, .int .i64 0]) (t := 30) ?_; intro gb532 hg w109 hbox hb; replace HO_457001 := am_ (Kd.R_below (rq_ HO_457001.out) hb); replace HO_464001 := am_ (Kd.R_below (rq_ HO_464001.out) hb); replace HO503 := am_ (Kd.R_below (rq_ HO503.out) hb); replace HO511 := am_ (Kd.R_below (rq_ HO511.out) hb); replace HO518 := am_ (Kd.R_below (rq_ HO518.out) hb); replace HO525 := am_ (Kd.R_below (rq_ HO525.out) hb); replace HO530 := am_ (Kd.R_below (rq_ HO530.out) hb); have BK532 := am_ (hbox); have GW532 := gz_ hg; have GE532 := gz_ hg; replace HB := bs_ hb; have NB456_532 := nl_ BK456 hg; have NB532_456 := nr_ BK456 hg; replace BK456 := bb_ BK456 hb; have NB463_532 := nl_ BK463 hg; have NB532_463 := nr_ BK463 hg; replace BK463 := bb_ BK463 hb; have NB507_532 := nl_ BK507 hg; have NB532_507 := nr_ BK507 hg; replace BK507 := bb_ BK507 hb; have NB514_532 := nl_ BK514 hg; have NB532_514 := nr_ BK514 hg; replace BK514 := bb_ BK514 hb; have NB521_532 := nl_ BK521 hg; have NB532_521 := nr_ BK521 hg; replace BK521 := bb_ BK521 hb; clear hb hbox hg) | ((with_reducible refine gate_dst (N := 30) rfl ?_); refine boxq_ (N := 30) (cs := #[.int .i64 0, .slice none 0 0, .int .i64 0]) (t := 30) ?_; intro gb533 hg w110 hbox hb; replace HO_457001 := am_ (Kd.R_below (rq_ HO_457001.out) hb); replace HO_464001 := am_ (Kd.R_below (rq_ HO_464001.out) hb); replace HO503 := am_ (Kd.R_below (rq_ HO503.out) hb); replace HO511 := am_ (Kd.R_below (rq_ HO511.out) hb); replace HO518 := am_ (Kd.R_below (rq_ HO518.out) hb); replace HO525 := am_ (Kd.R_below (rq_ HO525.out) hb); replace HO530 := am_ (Kd.R_below (rq_ HO530.out) hb); have BK533 := am_ (hbox); have GW533 := gz_ hg; have GE533 := gz_ hg; replace HB := bs_ hb; have NB456_533 := nl_ BK456 hg; have NB533_456 := nr_ BK456 hg; replace BK456 := bb_ BK456 hb; have NB463_533 := nl_ BK463 hg; have NB533_463 := nr_ BK463 hg; replace BK463 := bb_ BK463 hb; have NB507_533 := nl_ BK507 hg; have NB533_507 := nr_ BK507 hg; replace BK507 := bb_ BK507 hb; have NB514_533 := nl_ BK514 hg; have NB533_514 := nr_ BK514 hg; replace BK514 := bb_ BK514 hb; have NB521_533 := nl_ BK521 hg; have NB533_521 := nr_ BK521 hg; replace BK521 := bb_ BK521 hb; have NB532_533 := nl_ BK532 hg; have NB533_532 := nr_ BK532 hg; replace BK532 := bb_ BK532 hb; clear hb hbox hg; have hnb111 := NB532_456.out; have hnc111 := NB456_532.out; have hnb112 := NB532_463.out; have hnc112 := NB463_532.out; have hnb113 := NB532_507.out; have hnc113 := NB507_532.out; have hnb114 := NB532_514.out; have hnc114 := NB514_532.out; have hnb115 := NB532_521.out; have hnc115 := NB521_532.out; have hnb116 := NB532_533.out; have hnc116 := NB533_532.out; have hcz117_0 := cq_ BK532.out 0 (.int .i64 0); have hcz117_1 := cq_ BK532.out 1 (.slice none 0 0); have hcz117_2 := cq_ BK532.out 2 (.int .i64 0); have hfz117_0 := blk_frozen BK532.out 0; have hfz117_1 := blk_frozen BK532.out 1; have hfz117_2 := blk_frozen BK532.out 2; obtain ⟨Ao118, co118, eo118⟩ := Kd.R_slice HO525.out; subst eo118; have hnb119 := NB533_456.out; have hnc119 := NB456_533.out; have hnb120 := NB533_463.out; have hnc120 := NB463_533.out; have hnb121 := NB533_507.out; have hnc121 := NB507_533.out; have hnb122 := NB533_514.out; have hnc122 := NB514_533.out; have hnb123 := NB533_521.out; have hnc123 := NB521_533.out; have hcz124_0 := cq_ BK533.out 0 (.int .i64 0); have hcz124_1 := cq_ BK533.out 1 (.slice none 0 0); have hcz124_2 := cq_ BK533.out 2 (.int .i64 0); have hfz124_0 := blk_frozen BK533.out 0; have hfz124_1 := blk_frozen BK533.out 1; have hfz124_2 := blk_frozen BK533.out 2; obtain ⟨Ao125, co125, eo125⟩ := Kd.R_slice HO530.out; subst eo125) | ((with_reducible refine gl_ 30 rfl ?_); refine goesM_ (some 174) Try.func30 #[.agg #[.int .i64 t522, .slice Ao118 t523.length co118, .int .i64 t526], .agg #[.int .i64 t527, .slice Ao125 t528.length co125, .int .i64 t531]] ?_; (with_reducible refine (impl_BothOf.calls kj25 t522 _ _ t523 t526 t527 _ _ t528 t531 t534 t535 t538 t539 _ ?side1 ?side2 ?side3 ?side4 A83.out).mono ?_); (case side1 => refine (Kd.R_reads' (e := 75) (base := w.heap.size) (ok := fun k_ => (((((some k_ ≠ (.slice Ao125 t528.length co125 : Value).ownBlock ∧ some k_ ≠ (.slice Ao13 t451.length co13 : Value).ownBlock) ∧ some k_ ≠ (.slice Ao18 t458.length co18 : Value).ownBlock) ∧ some k_ ≠ (.slice Ao91 t501.length co91 : Value).ownBlock) ∧ some k_ ≠ (.slice Ao98 t509.length co98 : Value).ownBlock) ∧ some k_ ≠ (.slice Ao107 t516.length co107 : Value).ownBlock)) (n := t523.length) (c := co118) ?_).2.2; exact (rq_ ((Kd.R_mono (Kd.R_mono (Kd.R_far (p := ⟨gb533, 2, none⟩) (Kd.R_far (p := ⟨gb533, 1, none⟩) (Kd.R_far (p := ⟨gb533, 0, none⟩) (Kd.R_far (p := ⟨gb532, 2, none⟩) (Kd.R_far (p := ⟨gb532, 1, none⟩) (Kd.R_far (p := ⟨gb532, 0, none⟩) (Kd.R_types (Kd.R_types HO525.out BK532.out (by decide)) BK533.out (by decide)) (fun _ hk => hk.1.2) (.int .i64 t522)) (fun _ hk => hk.1.2) (.slice Ao118 t523.length co118)) (fun _ hk => hk.1.2) (.int .i64 t526)) (fun _ hk => hk.2) (.int .i64 t527)) (fun _ hk => hk.2) (.slice Ao125 t528.length co125)) (fun _ hk => hk.2) (.int .i64 t531)) (fun _ h_ => h_.1)) (fun _ h_ => h_.1))))); (case side2 => exact (Kd.R_reads' HO525.out).2.1); (case side3 => refine (Kd.R_reads' (e := 75) (base := w.heap.size) (ok := fun k_ => (((((some k_ ≠ (.slice Ao118 t523.length co118 : Value).ownBlock ∧ some k_ ≠ (.slice Ao13 t451.length co13 : Value).ownBlock) ∧ some k_ ≠ (.slice Ao18 t458.length co18 : Value).ownBlock) ∧ some k_ ≠ (.slice Ao91 t501.length co91 : Value).ownBlock) ∧ some k_ ≠ (.slice Ao98 t509.length co98 : Value).ownBlock) ∧ some k_ ≠ (.slice Ao107 t516.length co107 : Value).ownBlock)) (n := t528.length) (c := co125) ?_).2.2; exact (rq_ ((Kd.R_mono (Kd.R_mono (Kd.R_far (p := ⟨gb533, 2, none⟩) (Kd.R_far (p := ⟨gb533, 1, none⟩) (Kd.R_far (p := ⟨gb533, 0, none⟩) (Kd.R_far (p := ⟨gb532, 2, none⟩) (Kd.R_far (p := ⟨gb532, 1, none⟩) (Kd.R_far (p := ⟨gb532, 0, none⟩) (Kd.R_types (Kd.R_types HO530.out BK532.out (by decide)) BK533.out (by decide)) (fun _ hk => hk.1.2) (.int .i64 t522)) (fun _ hk => hk.1.2) (.slice Ao118 t523.length co118)) (fun _ hk => hk.1.2) (.int .i64 t526)) (fun _ hk => hk.2) (.int .i64 t527)) (fun _ hk => hk.2) (.slice Ao125 t528.length co125)) (fun _ hk => hk.2) (.int .i64 t531)) (fun _ h_ => h_.1)) (fun _ h_ => h_.1))))); (case side4 => exact (Kd.R_reads' HO530.out).2.1); rintro e w126 ⟨v536, rfl, ho0, hb⟩; refine ⟨_, rfl, ?_⟩; have HO537 := am_ (Kd.R_lower (Kd.R_new' (Kd.R_new' (Kd.R_new' (Kd.R_new' (Kd.R_new' (Kd.R_new' (Kd.R_new' ho0 (Kd.R_lt (rq_ ((Kd.R_mono (Kd.R_mono (Kd.R_far (p := ⟨gb533, 2, none⟩) (Kd.R_far (p := ⟨gb533, 1, none⟩) (Kd.R_far (p := ⟨gb533, 0, none⟩) (Kd.R_far (p := ⟨gb532, 2, none⟩) (Kd.R_far (p := ⟨gb532, 1, none⟩) (Kd.R_far (p := ⟨gb532, 0, none⟩) (Kd.R_types (Kd.R_types HO_457001.out BK532.out (by decide)) BK533.out (by decide)) (fun _ hk => hk.1.2) (.int .i64 t522)) (fun _ hk => hk.1.2) (.slice Ao118 t523.length co118)) (fun _ hk => hk.1.2) (.int .i64 t526)) (fun _ hk => hk.2) (.int .i64 t527)) (fun _ hk => hk.2) (.slice Ao125 t528.length co125)) (fun _ hk => hk.2) (.int .i64 t531)) (fun _ h_ => h_.1)) (fun _ h_ => h_.1)))))) (Kd.R_lt (rq_ ((Kd.R_mono (Kd.R_mono (Kd.R_far (p := ⟨gb533, 2, none⟩) (Kd.R_far (p := ⟨gb533, 1, none⟩) (Kd.R_far (p := ⟨gb533, 0, none⟩) (Kd.R_far (p := ⟨gb532, 2, none⟩) (Kd.R_far (p := ⟨gb532, 1, none⟩) (Kd.R_far (p := ⟨gb532, 0, none⟩) (Kd.R_types (Kd.R_types HO_464001.out BK532.out (by decide)) BK533.out (by decide)) (fun _ hk => hk.1.2) (.int .i64 t522)) (fun _ hk => hk.1.2) (.slice Ao118 t523.length co118)) (fun _ hk => hk.1.2) (.int .i64 t526)) (fun _ hk => hk.2) (.int .i64 t527)) (fun _ hk => hk.2) (.slice Ao125 t528.length co125)) (fun _ hk => hk.2) (.int .i64 t531)) (fun _ h_ => h_.1)) (fun _ h_ => h_.1)))))) (Kd.R_lt (rq_ ((Kd.R_mono (Kd.R_mono (Kd.R_far (p := ⟨gb533, 2, none⟩) (Kd.R_far (p := ⟨gb533, 1, none⟩) (Kd.R_far (p := ⟨gb533, 0, none⟩) (Kd.R_far (p := ⟨gb532, 2, none⟩) (Kd.R_far (p := ⟨gb532, 1, none⟩) (Kd.R_far (p := ⟨gb532, 0, none⟩) (Kd.R_types (Kd.R_types HO503.out BK532.out (by decide)) BK533.out (by decide)) (fun _ hk => hk.1.2) (.int .i64 t522)) (fun _ hk => hk.1.2) (.slice Ao118 t523.length co118)) (fun _ hk => hk.1.2) (.int .i64 t526)) (fun _ hk => hk.2) (.int .i64 t527)) (fun _ hk => hk.2) (.slice Ao125 t528.length co125)) (fun _ hk => hk.2) (.int .i64 t531)) (fun _ h_ => h_.1)) (fun _ h_ => h_.1)))))) (Kd.R_lt (rq_ ((Kd.R_mono (Kd.R_mono (Kd.R_far (p := ⟨gb533, 2, none⟩) (Kd.R_far (p := ⟨gb533, 1, none⟩) (Kd.R_far (p := ⟨gb533, 0, none⟩) (Kd.R_far (p := ⟨gb532, 2, none⟩) (Kd.R_far (p := ⟨gb532, 1, none⟩) (Kd.R_far (p := ⟨gb532, 0, none⟩) (Kd.R_types (Kd.R_types HO511.out BK532.out (by decide)) BK533.out (by decide)) (fun _ hk => hk.1.2) (.int .i64 t522)) (fun _ hk => hk.1.2) (.slice Ao118 t523.length co118)) (fun _ hk => hk.1.2) (.int .i64 t526)) (fun _ hk => hk.2) (.int .i64 t527)) (fun _ hk => hk.2) (.slice Ao125 t528.length co125)) (fun _ hk => hk.2) (.int .i64 t531)) (fun _ h_ => h_.1)) (fun _ h_ => h_.1)))))) (Kd.R_lt (rq_ ((Kd.R_mono (Kd.R_mono (Kd.R_far (p := ⟨gb533, 2, none⟩) (Kd.R_far (p := ⟨gb533, 1, none⟩) (Kd.R_far (p := ⟨gb533, 0, none⟩) (Kd.R_far (p := ⟨gb532, 2, none⟩) (Kd.R_far (p := ⟨gb532, 1, none⟩) (Kd.R_far (p := ⟨gb532, 0, none⟩) (Kd.R_types (Kd.R_types HO518.out BK532.out (by decide)) BK533.out (by decide)) (fun _ hk => hk.1.2) (.int .i64 t522)) (fun _ hk => hk.1.2) (.slice Ao118 t523.length co118)) (fun _ hk => hk.1.2) (.int .i64 t526)) (fun _ hk => hk.2) (.int .i64 t527)) (fun _ hk => hk.2) (.slice Ao125 t528.length co125)) (fun _ hk => hk.2) (.int .i64 t531)) (fun _ h_ => h_.1)) (fun _ h_ => h_.1)))))) (Kd.R_lt (rq_ ((Kd.R_mono (Kd.R_mono (Kd.R_far (p := ⟨gb533, 2, none⟩) (Kd.R_far (p := ⟨gb533, 1, none⟩) (Kd.R_far (p := ⟨gb533, 0, none⟩) (Kd.R_far (p := ⟨gb532, 2, none⟩) (Kd.R_far (p := ⟨gb532, 1, none⟩) (Kd.R_far (p := ⟨gb532, 0, none⟩) (Kd.R_types (Kd.R_types HO525.out BK532.out (by decide)) BK533.out (by decide)) (fun _ hk => hk.1.2) (.int .i64 t522)) (fun _ hk => hk.1.2) (.slice Ao118 t523.length co118)) (fun _ hk => hk.1.2) (.int .i64 t526)) (fun _ hk => hk.2) (.int .i64 t527)) (fun _ hk => hk.2) (.slice Ao125 t528.length co125)) (fun _ hk => hk.2) (.int .i64 t531)) (fun _ h_ => h_.1)) (fun _ h_ => h_.1)))))) (Kd.R_lt (rq_ ((Kd.R_mono (Kd.R_mono (Kd.R_far (p := ⟨gb533, 2, none⟩) (Kd.R_far (p := ⟨gb533, 1, none⟩) (Kd.R_far (p := ⟨gb533, 0, none⟩) (Kd.R_far (p := ⟨gb532, 2, none⟩) (Kd.R_far (p := ⟨gb532, 1, none⟩) (Kd.R_far (p := ⟨gb532, 0, none⟩) (Kd.R_types (Kd.R_types HO530.out BK532.out (by decide)) BK533.out (by decide)) (fun _ hk => hk.1.2) (.int .i64 t522)) (fun _ hk => hk.1.2) (.slice Ao118 t523.length co118)) (fun _ hk => hk.1.2) (.int .i64 t526)) (fun _ hk => hk.2) (.int .i64 t527)) (fun _ hk => hk.2) (.slice Ao125 t528.length co125)) (fun _ hk => hk.2) (.int .i64 t531)) (fun _ h_ => h_.1)) (fun _ h_ => h_.1)))))) (below_size (bq_))); replace HO_457001 := am_ (Kd.R_elder' (rq_ ((Kd.R_mono (Kd.R_mono (Kd.R_far (p := ⟨gb533, 2, none⟩) (Kd.R_far (p := ⟨gb533, 1, none⟩) (Kd.R_far (p := ⟨gb533, 0, none⟩) (Kd.R_far (p := ⟨gb532, 2, none⟩) (Kd.R_far (p := ⟨gb532, 1, none⟩) (Kd.R_far (p := ⟨gb532, 0, none⟩) (Kd.R_types (Kd.R_types HO_457001.out BK532.out (by decide)) BK533.out (by decide)) (fun _ hk => hk.1.2) (.int .i64 t522)) (fun _ hk => hk.1.2) (.slice Ao118 t523.length co118)) (fun _ hk => hk.1.2) (.int .i64 t526)) (fun _ hk => hk.2) (.int .i64 t527)) (fun _ hk => hk.2) (.slice Ao125 t528.length co125)) (fun _ hk => hk.2) (.int .i64 t531)) (fun _ h_ => h_.1)) (fun _ h_ => h_.1)))) (Kd.R_base ho0) hb); replace HO_464001 := am_ (Kd.R_elder' (rq_ ((Kd.R_mono (Kd.R_mono (Kd.R_far (p := ⟨gb533, 2, none⟩) (Kd.R_far (p := ⟨gb533, 1, none⟩) (Kd.R_far (p := ⟨gb533, 0, none⟩) (Kd.R_far (p := ⟨gb532, 2, none⟩) (Kd.R_far (p := ⟨gb532, 1, none⟩) (Kd.R_far (p := ⟨gb532, 0, none⟩) (Kd.R_types (Kd.R_types HO_464001.out BK532.out (by decide)) BK533.out (by decide)) (fun _ hk => hk.1.2) (.int .i64 t522)) (fun _ hk => hk.1.2) (.slice Ao118 t523.length co118)) (fun _ hk => hk.1.2) (.int .i64 t526)) (fun _ hk => hk.2) (.int .i64 t527)) (fun _ hk => hk.2) (.slice Ao125 t528.length co125)) (fun _ hk => hk.2) (.int .i64 t531)) (fun _ h_ => h_.1)) (fun _ h_ => h_.1)))) (Kd.R_base ho0) hb); replace HO503 := am_ (Kd.R_elder' (rq_ ((Kd.R_mono (Kd.R_mono (Kd.R_far (p := ⟨gb533, 2, none⟩) (Kd.R_far (p := ⟨gb533, 1, none⟩) (Kd.R_far (p := ⟨gb533, 0, none⟩) (Kd.R_far (p := ⟨gb532, 2, none⟩) (Kd.R_far (p := ⟨gb532, 1, none⟩) (Kd.R_far (p := ⟨gb532, 0, none⟩) (Kd.R_types (Kd.R_types HO503.out BK532.out (by decide)) BK533.out (by decide)) (fun _ hk => hk.1.2) (.int .i64 t522)) (fun _ hk => hk.1.2) (.slice Ao118 t523.length co118)) (fun _ hk => hk.1.2) (.int .i64 t526)) (fun _ hk => hk.2) (.int .i64 t527)) (fun _ hk => hk.2) (.slice Ao125 t528.length co125)) (fun _ hk => hk.2) (.int .i64 t531)) (fun _ h_ => h_.1)) (fun _ h_ => h_.1)))) (Kd.R_base ho0) hb); replace HO511 := am_ (Kd.R_elder' (rq_ ((Kd.R_mono (Kd.R_mono (Kd.R_far (p := ⟨gb533, 2, none⟩) (Kd.R_far (p := ⟨gb533, 1, none⟩) (Kd.R_far (p := ⟨gb533, 0, none⟩) (Kd.R_far (p := ⟨gb532, 2, none⟩) (Kd.R_far (p := ⟨gb532, 1, none⟩) (Kd.R_far (p := ⟨gb532, 0, none⟩) (Kd.R_types (Kd.R_types HO511.out BK532.out (by decide)) BK533.out (by decide)) (fun _ hk => hk.1.2) (.int .i64 t522)) (fun _ hk => hk.1.2) (.slice Ao118 t523.length co118)) (fun _ hk => hk.1.2) (.int .i64 t526)) (fun _ hk => hk.2) (.int .i64 t527)) (fun _ hk => hk.2) (.slice Ao125 t528.length co125)) (fun _ hk => hk.2) (.int .i64 t531)) (fun _ h_ => h_.1)) (fun _ h_ => h_.1)))) (Kd.R_base ho0) hb); replace HO518 := am_ (Kd.R_elder' (rq_ ((Kd.R_mono (Kd.R_mono (Kd.R_far (p := ⟨gb533, 2, none⟩) (Kd.R_far (p := ⟨gb533, 1, none⟩) (Kd.R_far (p := ⟨gb533, 0, none⟩) (Kd.R_far (p := ⟨gb532, 2, none⟩) (Kd.R_far (p := ⟨gb532, 1, none⟩) (Kd.R_far (p := ⟨gb532, 0, none⟩) (Kd.R_types (Kd.R_types HO518.out BK532.out (by decide)) BK533.out (by decide)) (fun _ hk => hk.1.2) (.int .i64 t522)) (fun _ hk => hk.1.2) (.slice Ao118 t523.length co118)) (fun _ hk => hk.1.2) (.int .i64 t526)) (fun _ hk => hk.2) (.int .i64 t527)) (fun _ hk => hk.2) (.slice Ao125 t528.length co125)) (fun _ hk => hk.2) (.int .i64 t531)) (fun _ h_ => h_.1)) (fun _ h_ => h_.1)))) (Kd.R_base ho0) hb); replace HO525 := am_ (Kd.R_elder' (rq_ ((Kd.R_mono (Kd.R_mono (Kd.R_far (p := ⟨gb533, 2, none⟩) (Kd.R_far (p := ⟨gb533, 1, none⟩) (Kd.R_far (p := ⟨gb533, 0, none⟩) (Kd.R_far (p := ⟨gb532, 2, none⟩) (Kd.R_far (p := ⟨gb532, 1, none⟩) (Kd.R_far (p := ⟨gb532, 0, none⟩) (Kd.R_types (Kd.R_types HO525.out BK532.out (by decide)) BK533.out (by decide)) (fun _ hk => hk.1.2) (.int .i64 t522)) (fun _ hk => hk.1.2) (.slice Ao118 t523.length co118)) (fun _ hk => hk.1.2) (.int .i64 t526)) (fun _ hk => hk.2) (.int .i64 t527)) (fun _ hk => hk.2) (.slice Ao125 t528.length co125)) (fun _ hk => hk.2) (.int .i64 t531)) (fun _ h_ => h_.1)) (fun _ h_ => h_.1)))) (Kd.R_base ho0) hb); replace HO530 := am_ (Kd.R_elder' (rq_ ((Kd.R_mono (Kd.R_mono (Kd.R_far (p := ⟨gb533, 2, none⟩) (Kd.R_far (p := ⟨gb533, 1, none⟩) (Kd.R_far (p := ⟨gb533, 0, none⟩) (Kd.R_far (p := ⟨gb532, 2, none⟩) (Kd.R_far (p := ⟨gb532, 1, none⟩) (Kd.R_far (p := ⟨gb532, 0, none⟩) (Kd.R_types (Kd.R_types HO530.out BK532.out (by decide)) BK533.out (by decide)) (fun _ hk => hk.1.2) (.int .i64 t522)) (fun _ hk => hk.1.2) (.slice Ao118 t523.length co118)) (fun _ hk => hk.1.2) (.int .i64 t526)) (fun _ hk => hk.2) (.int .i64 t527)) (fun _ hk => hk.2) (.slice Ao125 t528.length co125)) (fun _ hk => hk.2) (.int .i64 t531)) (fun _ h_ => h_.1)) (fun _ h_ => h_.1)))) (Kd.R_base ho0) hb); replace BK456 := am_ (blk_below (bu_ BK456.out) hb); replace BK463 := am_ (blk_below (bu_ BK463.out) hb); replace BK507 := am_ (blk_below (bu_ BK507.out) hb); replace BK514 := am_ (blk_below (bu_ BK514.out) hb); replace BK521 := am_ (blk_below (bu_ BK521.out) hb); replace BK532 := am_ (blk_below (bu_ BK532.out) hb); replace BK533 := am_ (blk_below (bu_ BK533.out) hb); replace HB := bs_ hb; (try clear hb); (try clear hk); (try clear ho0)) | ((with_reducible refine gate_dst (N := 31) rfl ?_); refine boxq_ (N := 31) (cs := #[.int .i64 0, .slice none 0 0, .int .i64 0]) (t := 30) ?_; intro gb540 hg w127 hbox hb; replace HO_457001 := am_ (Kd.R_below (rq_ HO_457001.out) hb); replace HO_464001 := am_ (Kd.R_below (rq_ HO_464001.out) hb); replace HO503 := am_ (Kd.R_below (rq_ HO503.out) hb); replace HO511 := am_ (Kd.R_below (rq_ HO511.out) hb); replace HO518 := am_ (Kd.R_below (rq_ HO518.out) hb); replace HO525 := am_ (Kd.R_below (rq_ HO525.out) hb); replace HO530 := am_ (Kd.R_below (rq_ HO530.out) hb); replace HO537 := am_ (Kd.R_below (rq_ HO537.out) hb); have BK540 := am_ (hbox); have GW540 := gz_ hg; have GE540 := gz_ hg; replace HB := bs_ hb; have NB456_540 := nl_ BK456 hg; have NB540_456 := nr_ BK456 hg; replace BK456 := bb_ BK456 hb; have NB463_540 := nl_ BK463 hg; have NB540_463 := nr_ BK463 hg; replace BK463 := bb_ BK463 hb; have NB507_540 := nl_ BK507 hg; have NB540_507 := nr_ BK507 hg; replace BK507 := bb_ BK507 hb; have NB514_540 := nl_ BK514 hg; have NB540_514 := nr_ BK514 hg; replace BK514 := bb_ BK514 hb; have NB521_540 := nl_ BK521 hg; have NB540_521 := nr_ BK521 hg; replace BK521 := bb_ BK521 hb; have NB532_540 := nl_ BK532 hg; have NB540_532 := nr_ BK532 hg; replace BK532 := bb_ BK532 hb; have NB533_540 := nl_ BK533 hg; have NB540_533 := nr_ BK533 hg; replace BK533 := bb_ BK533 hb; clear hb hbox hg; have hnb128 := NB540_456.out; have hnc128 := NB456_540.out; have hnb129 := NB540_463.out; have hnc129 := NB463_540.out; have hnb130 := NB540_507.out; have hnc130 := NB507_540.out; have hnb131 := NB540_514.out; have hnc131 := NB514_540.out; have hnb132 := NB540_521.out; have hnc132 := NB521_540.out; have hnb133 := NB540_532.out; have hnc133 := NB532_540.out; have hnb134 := NB540_533.out; have hnc134 := NB533_540.out; have hcz135_0 := cq_ BK540.out 0 (.int .i64 0); have hcz135_1 := cq_ BK540.out 1 (.slice none 0 0); have hcz135_2 := cq_ BK540.out 2 (.int .i64 0); have hfz135_0 := blk_frozen BK540.out 0; have hfz135_1 := blk_frozen BK540.out 1; have hfz135_2 := blk_frozen BK540.out 2; obtain ⟨Ao136, co136, eo136⟩ := Kd.R_slice HO537.out; subst eo136; have hcz137_0 := cq_ BK532.out 0 (.int .i64 t522); have hcz137_1 := cq_ BK532.out 1 (.slice Ao118 t523.length co118); have hcz137_2 := cq_ BK532.out 2 (.int .i64 t526); have hfz137_0 := blk_frozen BK532.out 0; have hfz137_1 := blk_frozen BK532.out 1; have hfz137_2 := blk_frozen BK532.out 2; have hcz138_0 := cq_ BK533.out 0 (.int .i64 t527); have hcz138_1 := cq_ BK533.out 1 (.slice Ao125 t528.length co125); have hcz138_2 := cq_ BK533.out 2 (.int .i64 t531); have hfz138_0 := blk_frozen BK533.out 0; have hfz138_1 := blk_frozen BK533.out 1; have hfz138_2 := blk_frozen BK533.out 2) | ((with_reducible refine gl_ 29 rfl ?_); refine goesM_ (some 180) Try.func29 #[.agg #[.int .i64 t522, .slice Ao118 t523.length co118, .int .i64 t526], .agg #[.int .i64 t527, .slice Ao125 t528.length co125, .int .i64 t531]] ?_; (with_reducible refine (spec_BothOf.calls kj25 t522 _ _ t523 t526 t527 _ _ t528 t531 t541 t542 t545 t546 _ ?side1 ?side2 ?side3 ?side4 A84.out).mono ?_); (case side1 => refine (Kd.R_reads' (e := 75) (base := w.heap.size) (ok := fun k_ => ((((((some k_ ≠ (.slice Ao125 t528.length co125 : Value).ownBlock ∧ some k_ ≠ (.slice Ao13 t451.length co13 : Value).ownBlock) ∧ some k_ ≠ (.slice Ao18 t458.length co18 : Value).ownBlock) ∧ some k_ ≠ (.slice Ao91 t501.length co91 : Value).ownBlock) ∧ some k_ ≠ (.slice Ao98 t509.length co98 : Value).ownBlock) ∧ some k_ ≠ (.slice Ao107 t516.length co107 : Value).ownBlock) ∧ some k_ ≠ (.slice Ao136 t535.length co136 : Value).ownBlock)) (n := t523.length) (c := co118) ?_).2.2; exact (rg_ HO525 BK540)); (case side2 => exact (Kd.R_reads' HO525.out).2.1); (case side3 => refine (Kd.R_reads' (e := 75) (base := w.heap.size) (ok := fun k_ => ((((((some k_ ≠ (.slice Ao118 t523.length co118 : Value).ownBlock ∧ some k_ ≠ (.slice Ao13 t451.length co13 : Value).ownBlock) ∧ some k_ ≠ (.slice Ao18 t458.length co18 : Value).ownBlock) ∧ some k_ ≠ (.slice Ao91 t501.length co91 : Value).ownBlock) ∧ some k_ ≠ (.slice Ao98 t509.length co98 : Value).ownBlock) ∧ some k_ ≠ (.slice Ao107 t516.length co107 : Value).ownBlock) ∧ some k_ ≠ (.slice Ao136 t535.length co136 : Value).ownBlock)) (n := t528.length) (c := co125) ?_).2.2; exact (rg_ HO530 BK540)); (case side4 => exact (Kd.R_reads' HO530.out).2.1); rintro e w139 ⟨v543, rfl, ho0, hb⟩; refine ⟨_, rfl, ?_⟩; have HO544 := am_ (Kd.R_lower (Kd.R_new' (Kd.R_new' (Kd.R_new' (Kd.R_new' (Kd.R_new' (Kd.R_new' (Kd.R_new' (Kd.R_new' ho0 (Kd.R_lt (rg_ HO_457001 BK540))) (Kd.R_lt (rg_ HO_464001 BK540))) (Kd.R_lt (rg_ HO503 BK540))) (Kd.R_lt (rg_ HO511 BK540))) (Kd.R_lt (rg_ HO518 BK540))) (Kd.R_lt (rg_ HO525 BK540))) (Kd.R_lt (rg_ HO530 BK540))) (Kd.R_lt (rg_ HO537 BK540))) (below_size (bq_))); replace HO_457001 := am_ (Kd.R_elder' (rg_ HO_457001 BK540) (Kd.R_base ho0) hb); replace HO_464001 := am_ (Kd.R_elder' (rg_ HO_464001 BK540) (Kd.R_base ho0) hb); replace HO503 := am_ (Kd.R_elder' (rg_ HO503 BK540) (Kd.R_base ho0) hb); replace HO511 := am_ (Kd.R_elder' (rg_ HO511 BK540) (Kd.R_base ho0) hb); replace HO518 := am_ (Kd.R_elder' (rg_ HO518 BK540) (Kd.R_base ho0) hb); replace HO525 := am_ (Kd.R_elder' (rg_ HO525 BK540) (Kd.R_base ho0) hb); replace HO530 := am_ (Kd.R_elder' (rg_ HO530 BK540) (Kd.R_base ho0) hb); replace HO537 := am_ (Kd.R_elder' (rg_ HO537 BK540) (Kd.R_base ho0) hb); replace BK456 := am_ (blk_below (bu_ BK456.out) hb); replace BK463 := am_ (blk_below (bu_ BK463.out) hb); replace BK507 := am_ (blk_below (bu_ BK507.out) hb); replace BK514 := am_ (blk_below (bu_ BK514.out) hb); replace BK521 := am_ (blk_below (bu_ BK521.out) hb); replace BK532 := am_ (blk_below (bu_ BK532.out) hb); replace BK533 := am_ (blk_below (bu_ BK533.out) hb); replace BK540 := am_ (blk_below (bu_ BK540.out) hb); replace HB := bs_ hb; (try clear hb); (try clear hk); (try clear ho0)) | ((with_reducible refine gate_dst (N := 33) rfl ?_); refine boxq_ (N := 33) (cs := #[.int .i64 0, .slice none 0 0, .int .i64 0]) (t := 30) ?_; intro gb547 hg w140 hbox hb; replace HO_457001 := am_ (Kd.R_below (rq_ HO_457001.out) hb); replace HO_464001 := am_ (Kd.R_below (rq_ HO_464001.out) hb); replace HO503 := am_ (Kd.R_below (rq_ HO503.out) hb); replace HO511 := am_ (Kd.R_below (rq_ HO511.out) hb); replace HO518 := am_ (Kd.R_below (rq_ HO518.out) hb); replace HO525 := am_ (Kd.R_below (rq_ HO525.out) hb); replace HO530 := am_ (Kd.R_below (rq_ HO530.out) hb); replace HO537 := am_ (Kd.R_below (rq_ HO537.out) hb); replace HO544 := am_ (Kd.R_below (rq_ HO544.out) hb); have BK547 := am_ (hbox); have GW547 := gz_ hg; have GE547 := gz_ hg; replace HB := bs_ hb; have NB456_547 := nl_ BK456 hg; have NB547_456 := nr_ BK456 hg; replace BK456 := bb_ BK456 hb; have NB463_547 := nl_ BK463 hg; have NB547_463 := nr_ BK463 hg; replace BK463 := bb_ BK463 hb; have NB507_547 := nl_ BK507 hg; have NB547_507 := nr_ BK507 hg; replace BK507 := bb_ BK507 hb; have NB514_547 := nl_ BK514 hg; have NB547_514 := nr_ BK514 hg; replace BK514 := bb_ BK514 hb; have NB521_547 := nl_ BK521 hg; have NB547_521 := nr_ BK521 hg; replace BK521 := bb_ BK521 hb; have NB532_547 := nl_ BK532 hg; have NB547_532 := nr_ BK532 hg; replace BK532 := bb_ BK532 hb; have NB533_547 := nl_ BK533 hg; have NB547_533 := nr_ BK533 hg; replace BK533 := bb_ BK533 hb; have NB540_547 := nl_ BK540 hg; have NB547_540 := nr_ BK540 hg; replace BK540 := bb_ BK540 hb; clear hb hbox hg; have hnb141 := NB547_456.out; have hnc141 := NB456_547.out; have hnb142 := NB547_463.out; have hnc142 := NB463_547.out; have hnb143 := NB547_507.out; have hnc143 := NB507_547.out; have hnb144 := NB547_514.out; have hnc144 := NB514_547.out; have hnb145 := NB547_521.out; have hnc145 := NB521_547.out; have hnb146 := NB547_532.out; have hnc146 := NB532_547.out; have hnb147 := NB547_533.out; have hnc147 := NB533_547.out; have hnb148 := NB547_540.out; have hnc148 := NB540_547.out; have hcz149_0 := cq_ BK547.out 0 (.int .i64 0); have hcz149_1 := cq_ BK547.out 1 (.slice none 0 0); have hcz149_2 := cq_ BK547.out 2 (.int .i64 0); have hfz149_0 := blk_frozen BK547.out 0; have hfz149_1 := blk_frozen BK547.out 1; have hfz149_2 := blk_frozen BK547.out 2; obtain ⟨Ao150, co150, eo150⟩ := Kd.R_slice HO544.out; subst eo150))
       (try simp only [Act.put, List.setIfInBounds_toArray, List.set_cons_zero, List.set_cons_succ])
       go_cut [202] (fun v202 wc => ∃ (kq : Nat) (x202_84 : Bool), v202 = .bool x202_84 ∧ Aside0 (laws_FnByClauses.j2 kq t505 t506 t513 x202_84 t500 t501 t504 t508 t509 t512 = some r) ∧ Aside0 (kq ≤ kj25) ∧ Aside0 (Kd.R k75 75 wc w.heap.size (fun k_ => some k_ ≠ ((.slice Ao18 t458.length co18) : Value).ownBlock ∧ some k_ ≠ ((.slice Ao91 t501.length co91) : Value).ownBlock ∧ some k_ ≠ ((.slice Ao98 t509.length co98) : Value).ownBlock ∧ some k_ ≠ ((.slice Ao107 t516.length co107) : Value).ownBlock ∧ some k_ ≠ ((.slice Ao118 t523.length co118) : Value).ownBlock ∧ some k_ ≠ ((.slice Ao125 t528.length co125) : Value).ownBlock ∧ some k_ ≠ ((.slice Ao136 t535.length co136) : Value).ownBlock ∧ some k_ ≠ ((.slice Ao150 t542.length co150) : Value).ownBlock) (.slice Ao13 t451.length co13) t451) ∧ Aside0 (Kd.R k75 75 wc w.heap.size (fun k_ => some k_ ≠ ((.slice Ao13 t451.length co13) : Value).ownBlock ∧ some k_ ≠ ((.slice Ao91 t501.length co91) : Value).ownBlock ∧ some k_ ≠ ((.slice Ao98 t509.length co98) : Value).ownBlock ∧ some k_ ≠ ((.slice Ao107 t516.length co107) : Value).ownBlock ∧ some k_ ≠ ((.slice Ao118 t523.length co118) : Value).ownBlock ∧ some k_ ≠ ((.slice Ao125 t528.length co125) : Value).ownBlock ∧ some k_ ≠ ((.slice Ao136 t535.length co136) : Value).ownBlock ∧ some k_ ≠ ((.slice Ao150 t542.length co150) : Value).ownBlock) (.slice Ao18 t458.length co18) t458) ∧ Aside0 (Kd.R k75 75 wc w.heap.size (fun k_ => some k_ ≠ ((.slice Ao13 t451.length co13) : Value).ownBlock ∧ some k_ ≠ ((.slice Ao18 t458.length co18) : Value).ownBlock ∧ some k_ ≠ ((.slice Ao98 t509.length co98) : Value).ownBlock ∧ some k_ ≠ ((.slice Ao107 t516.length co107) : Value).ownBlock ∧ some k_ ≠ ((.slice Ao118 t523.length co118) : Value).ownBlock ∧ some k_ ≠ ((.slice Ao125 t528.length co125) : Value).ownBlock ∧ some k_ ≠ ((.slice Ao136 t535.length co136) : Value).ownBlock ∧ some k_ ≠ ((.slice Ao150 t542.length co150) : Value).ownBlock) (.slice Ao91 t501.length co91) t501) ∧ Aside0 (Kd.R k75 75 wc w.heap.size (fun k_ => some k_ ≠ ((.slice Ao13 t451.length co13) : Value).ownBlock ∧ some k_ ≠ ((.slice Ao18 t458.length co18) : Value).ownBlock ∧ some k_ ≠ ((.slice Ao91 t501.length co91) : Value).ownBlock ∧ some k_ ≠ ((.slice Ao107 t516.length co107) : Value).ownBlock ∧ some k_ ≠ ((.slice Ao118 t523.length co118) : Value).ownBlock ∧ some k_ ≠ ((.slice Ao125 t528.length co125) : Value).ownBlock ∧ some k_ ≠ ((.slice Ao136 t535.length co136) : Value).ownBlock ∧ some k_ ≠ ((.slice Ao150 t542.length co150) : Value).ownBlock) (.slice Ao98 t509.length co98) t509) ∧ Aside0 (Kd.R k75 75 wc w.heap.size (fun k_ => some k_ ≠ ((.slice Ao13 t451.length co13) : Value).ownBlock ∧ some k_ ≠ ((.slice Ao18 t458.length co18) : Value).ownBlock ∧ some k_ ≠ ((.slice Ao91 t501.length co91) : Value).ownBlock ∧ some k_ ≠ ((.slice Ao98 t509.length co98) : Value).ownBlock ∧ some k_ ≠ ((.slice Ao118 t523.length co118) : Value).ownBlock ∧ some k_ ≠ ((.slice Ao125 t528.length co125) : Value).ownBlock ∧ some k_ ≠ ((.slice Ao136 t535.length co136) : Value).ownBlock ∧ some k_ ≠ ((.slice Ao150 t542.length co150) : Value).ownBlock) (.slice Ao107 t516.length co107) t516) ∧ Aside0 (Kd.R k75 75 wc w.heap.size (fun k_ => some k_ ≠ ((.slice Ao13 t451.length co13) : Value).ownBlock ∧ some k_ ≠ ((.slice Ao18 t458.length co18) : Value).ownBlock ∧ some k_ ≠ ((.slice Ao91 t501.length co91) : Value).ownBlock ∧ some k_ ≠ ((.slice Ao98 t509.length co98) : Value).ownBlock ∧ some k_ ≠ ((.slice Ao107 t516.length co107) : Value).ownBlock ∧ some k_ ≠ ((.slice Ao125 t528.length co125) : Value).ownBlock ∧ some k_ ≠ ((.slice Ao136 t535.length co136) : Value).ownBlock ∧ some k_ ≠ ((.slice Ao150 t542.length co150) : Value).ownBlock) (.slice Ao118 t523.length co118) t523) ∧ Aside0 (Kd.R k75 75 wc w.heap.size (fun k_ => some k_ ≠ ((.slice Ao13 t451.length co13) : Value).ownBlock ∧ some k_ ≠ ((.slice Ao18 t458.length co18) : Value).ownBlock ∧ some k_ ≠ ((.slice Ao91 t501.length co91) : Value).ownBlock ∧ some k_ ≠ ((.slice Ao98 t509.length co98) : Value).ownBlock ∧ some k_ ≠ ((.slice Ao107 t516.length co107) : Value).ownBlock ∧ some k_ ≠ ((.slice Ao118 t523.length co118) : Value).ownBlock ∧ some k_ ≠ ((.slice Ao136 t535.length co136) : Value).ownBlock ∧ some k_ ≠ ((.slice Ao150 t542.length co150) : Value).ownBlock) (.slice Ao125 t528.length co125) t528) ∧ Aside0 (Kd.R k75 75 wc w.heap.size (fun k_ => some k_ ≠ ((.slice Ao13 t451.length co13) : Value).ownBlock ∧ some k_ ≠ ((.slice Ao18 t458.length co18) : Value).ownBlock ∧ some k_ ≠ ((.slice Ao91 t501.length co91) : Value).ownBlock ∧ some k_ ≠ ((.slice Ao98 t509.length co98) : Value).ownBlock ∧ some k_ ≠ ((.slice Ao107 t516.length co107) : Value).ownBlock ∧ some k_ ≠ ((.slice Ao118 t523.length co118) : Value).ownBlock ∧ some k_ ≠ ((.slice Ao125 t528.length co125) : Value).ownBlock ∧ some k_ ≠ ((.slice Ao150 t542.length co150) : Value).ownBlock) (.slice Ao136 t535.length co136) t535) ∧ Aside0 (Kd.R k75 75 wc w.heap.size (fun k_ => some k_ ≠ ((.slice Ao13 t451.length co13) : Value).ownBlock ∧ some k_ ≠ ((.slice Ao18 t458.length co18) : Value).ownBlock ∧ some k_ ≠ ((.slice Ao91 t501.length co91) : Value).ownBlock ∧ some k_ ≠ ((.slice Ao98 t509.length co98) : Value).ownBlock ∧ some k_ ≠ ((.slice Ao107 t516.length co107) : Value).ownBlock ∧ some k_ ≠ ((.slice Ao118 t523.length co118) : Value).ownBlock ∧ some k_ ≠ ((.slice Ao125 t528.length co125) : Value).ownBlock ∧ some k_ ≠ ((.slice Ao136 t535.length co136) : Value).ownBlock) (.slice Ao150 t542.length co150) t542) ∧ Aside0 (wc.heap[gb456]? = some (.cells #[.int .i64 t450, (.slice Ao13 t451.length co13), .int .i64 t454] 30 (0, 0))) ∧ Aside0 (wc.heap[gb463]? = some (.cells #[.int .i64 t457, (.slice Ao18 t458.length co18), .int .i64 t461] 30 (0, 0))) ∧ Aside0 (wc.heap[gb507]? = some (.cells #[.int .i64 t500, (.slice Ao91 t501.length co91), .int .i64 t504] 30 (0, 0))) ∧ Aside0 (wc.heap[gb514]? = some (.cells #[.int .i64 t508, (.slice Ao98 t509.length co98), .int .i64 t512] 30 (0, 0))) ∧ Aside0 (wc.heap[gb521]? = some (.cells #[.int .i64 t515, (.slice Ao107 t516.length co107), .int .i64 t519] 30 (0, 0))) ∧ Aside0 (wc.heap[gb532]? = some (.cells #[.int .i64 t522, (.slice Ao118 t523.length co118), .int .i64 t526] 30 (0, 0))) ∧ Aside0 (wc.heap[gb533]? = some (.cells #[.int .i64 t527, (.slice Ao125 t528.length co125), .int .i64 t531] 30 (0, 0))) ∧ Aside0 (wc.heap[gb540]? = some (.cells #[.int .i64 t534, (.slice Ao136 t535.length co136), .int .i64 t538] 30 (0, 0))) ∧ Aside0 (wc.heap[gb547]? = some (.cells #[.int .i64 t541, (.slice Ao150 t542.length co150), .int .i64 t545] 30 (0, 0))) ∧ Aside0 (Below w.heap.size w wc))
       case first =>
        have H := HC85.out
        clear HC85
        by_cases c151 : (t513 != t520) = true
        ·rw [if_pos c151] at H
         have c151b0 : (t513 != t520) = true := c151
         (try (have c151b1 : decide (t513 = t520) = false := by simpa using c151))
         (try (have c151b2 : (t513 == t520) = false := by simpa using c151))
         (try (have c151b3 : ¬ (t513 = t520) := by simpa using c151))
         clear c151
         (first | rw [c151b0] | (simp only [i64_w, i32_w]; rw [c151b0]) | skip)
         exact (laws_FnByClauses.j2_no_3 (by rw [hr_.out] at H; exact H)).elim
        ·rw [if_neg c151] at H
         have c151b0 : (t513 != t520) = false := by simpa using c151
         (try (have c151b1 : decide (t513 = t520) = true := by simpa using c151))
         (try (have c151b2 : (t513 == t520) = true := by simpa using c151))
         clear c151
         (first | rw [c151b0] | (simp only [i64_w, i32_w]; rw [c151b0]) | skip)
         replace H := Option.bind_eq_some_iff.mp H
         obtain ⟨t548, A1520, H⟩ := H
         replace H : (if t548 = true then (if (t539 != t546) = true then (laws_FnByClauses.j2 kj25 t505 t506 t513 true t500 t501 t504 t508 t509 t512) else ((laws_sameDiagram.f kj25 t534 t535 t538 t541 t542 t545).bind fun t549 => (laws_FnByClauses.j2 kj25 t505 t506 t513 (!t549) t500 t501 t504 t508 t509 t512))) else (laws_FnByClauses.j2 kj25 t505 t506 t513 true t500 t501 t504 t508 t509 t512)) = some r := H
         have A152 := am_ A1520
         clear A1520
         by_cases c153 : t548 = true
         ·subst c153
          have H1 : (if (t539 != t546) = true then (laws_FnByClauses.j2 kj25 t505 t506 t513 true t500 t501 t504 t508 t509 t512) else ((laws_sameDiagram.f kj25 t534 t535 t538 t541 t542 t545).bind fun t549 => (laws_FnByClauses.j2 kj25 t505 t506 t513 (!t549) t500 t501 t504 t508 t509 t512))) = some r := by rw [if_pos rfl] at H; exact H
          clear H
          have H := H1
          clear H1
          by_cases c154 : (t539 != t546) = true
          ·rw [if_pos c154] at H
           have c154b0 : (t539 != t546) = true := c154
           (try (have c154b1 : decide (t539 = t546) = false := by simpa using c154))
           (try (have c154b2 : (t539 == t546) = false := by simpa using c154))
           (try (have c154b3 : ¬ (t539 = t546) := by simpa using c154))
           clear c154
           exact (laws_FnByClauses.j2_no_3 (by rw [hr_.out] at H; exact H)).elim
          ·rw [if_neg c154] at H
           have c154b0 : (t539 != t546) = false := by simpa using c154
           (try (have c154b1 : decide (t539 = t546) = true := by simpa using c154))
           (try (have c154b2 : (t539 == t546) = true := by simpa using c154))
           clear c154
           replace H := Option.bind_eq_some_iff.mp H
           obtain ⟨t549, A1550, H⟩ := H
           replace H : (laws_FnByClauses.j2 kj25 t505 t506 t513 (!t549) t500 t501 t504 t508 t509 t512) = some r := H
           have A155 := am_ A1550
           clear A1550
           as_aux_lemma =>
            have H' := am_ H
            clear H
            have hnb156 := NB514_456.out
            have hnc156 := NB456_514.out
            have hnb157 := NB514_463.out
            have hnc157 := NB463_514.out
            have hnb158 := NB514_507.out
            have hnc158 := NB507_514.out
            have hnb159 := NB514_521.out
            have hnc159 := NB521_514.out
            have hnb160 := NB514_532.out
            have hnc160 := NB532_514.out
            have hnb161 := NB514_533.out
            have hnc161 := NB533_514.out
            have hnb162 := NB514_540.out
            have hnc162 := NB540_514.out
            have hnb163 := NB514_547.out
            have hnc163 := NB547_514.out
            have hcz164_0 := cq_ BK514.out 0 (.int .i64 t508)
            have hcz164_1 := cq_ BK514.out 1 (.slice Ao98 t509.length co98)
            have hcz164_2 := cq_ BK514.out 2 (.int .i64 t512)
            have hfz164_0 := blk_frozen BK514.out 0
            have hfz164_1 := blk_frozen BK514.out 1
            have hfz164_2 := blk_frozen BK514.out 2
            have hnb165 := NB521_456.out
            have hnc165 := NB456_521.out
            have hnb166 := NB521_463.out
            have hnc166 := NB463_521.out
            have hnb167 := NB521_507.out
            have hnc167 := NB507_521.out
            have hnb168 := NB521_532.out
            have hnc168 := NB532_521.out
            have hnb169 := NB521_533.out
            have hnc169 := NB533_521.out
            have hnb170 := NB521_540.out
            have hnc170 := NB540_521.out
            have hnb171 := NB521_547.out
            have hnc171 := NB547_521.out
            have hcz172_0 := cq_ BK521.out 0 (.int .i64 t515)
            have hcz172_1 := cq_ BK521.out 1 (.slice Ao107 t516.length co107)
            have hcz172_2 := cq_ BK521.out 2 (.int .i64 t519)
            have hfz172_0 := blk_frozen BK521.out 0
            have hfz172_1 := blk_frozen BK521.out 1
            have hfz172_2 := blk_frozen BK521.out 2
            go_wp2_with (first | (go_at_call 42; (with_reducible refine (laws_sameDiagram.calls kj25 t508 _ _ t509 t512 t515 _ _ t516 t519 true _ ?side1 ?side2 ?side3 ?side4 A152.out).mono ?_); (case side1 => refine (Kd.R_reads' (e := 75) (base := w.heap.size) (ok := fun k_ => ((((((((True ∧ some k_ ≠ (.slice Ao13 t451.length co13 : Value).ownBlock) ∧ some k_ ≠ (.slice Ao18 t458.length co18 : Value).ownBlock) ∧ some k_ ≠ (.slice Ao91 t501.length co91 : Value).ownBlock) ∧ some k_ ≠ (.slice Ao107 t516.length co107 : Value).ownBlock) ∧ some k_ ≠ (.slice Ao118 t523.length co118 : Value).ownBlock) ∧ some k_ ≠ (.slice Ao125 t528.length co125 : Value).ownBlock) ∧ some k_ ≠ (.slice Ao136 t535.length co136 : Value).ownBlock) ∧ some k_ ≠ (.slice Ao150 t542.length co150 : Value).ownBlock)) (n := t509.length) (c := co98) ?_).2.2; exact (rg_ HO511 BK547)); (case side2 => exact (Kd.R_reads' HO511.out).2.1); (case side3 => refine (Kd.R_reads' (e := 75) (base := w.heap.size) (ok := fun k_ => ((((((((True ∧ some k_ ≠ (.slice Ao13 t451.length co13 : Value).ownBlock) ∧ some k_ ≠ (.slice Ao18 t458.length co18 : Value).ownBlock) ∧ some k_ ≠ (.slice Ao91 t501.length co91 : Value).ownBlock) ∧ some k_ ≠ (.slice Ao98 t509.length co98 : Value).ownBlock) ∧ some k_ ≠ (.slice Ao118 t523.length co118 : Value).ownBlock) ∧ some k_ ≠ (.slice Ao125 t528.length co125 : Value).ownBlock) ∧ some k_ ≠ (.slice Ao136 t535.length co136 : Value).ownBlock) ∧ some k_ ≠ (.slice Ao150 t542.length co150 : Value).ownBlock)) (n := t516.length) (c := co107) ?_).2.2; exact (rg_ HO518 BK547)); (case side4 => exact (Kd.R_reads' HO518.out).2.1); rintro e w173 ⟨rfl, hb⟩; replace HO_457001 := am_ (Kd.R_below (rg_ HO_457001 BK547) hb); replace HO_464001 := am_ (Kd.R_below (rg_ HO_464001 BK547) hb); replace HO503 := am_ (Kd.R_below (rg_ HO503 BK547) hb); replace HO511 := am_ (Kd.R_below (rg_ HO511 BK547) hb); replace HO518 := am_ (Kd.R_below (rg_ HO518 BK547) hb); replace HO525 := am_ (Kd.R_below (rg_ HO525 BK547) hb); replace HO530 := am_ (Kd.R_below (rg_ HO530 BK547) hb); replace HO537 := am_ (Kd.R_below (rg_ HO537 BK547) hb); replace HO544 := am_ (Kd.R_below (rg_ HO544 BK547) hb); replace BK456 := am_ (blk_below (bu_ BK456.out) hb); replace BK463 := am_ (blk_below (bu_ BK463.out) hb); replace BK507 := am_ (blk_below (bu_ BK507.out) hb); replace BK514 := am_ (blk_below (bu_ BK514.out) hb); replace BK521 := am_ (blk_below (bu_ BK521.out) hb); replace BK532 := am_ (blk_below (bu_ BK532.out) hb); replace BK533 := am_ (blk_below (bu_ BK533.out) hb); replace BK540 := am_ (blk_below (bu_ BK540.out) hb); replace BK547 := am_ (blk_below (bu_ BK547.out) hb); replace HB := bs_ hb; (try clear hb); have hnb174 := NB540_456.out; have hnc174 := NB456_540.out; have hnb175 := NB540_463.out; have hnc175 := NB463_540.out; have hnb176 := NB540_507.out; have hnc176 := NB507_540.out; have hnb177 := NB540_532.out; have hnc177 := NB532_540.out; have hnb178 := NB540_533.out; have hnc178 := NB533_540.out; have hnb179 := NB540_547.out; have hnc179 := NB547_540.out; have hcz180_0 := cq_ BK540.out 0 (.int .i64 t534); have hcz180_1 := cq_ BK540.out 1 (.slice Ao136 t535.length co136); have hcz180_2 := cq_ BK540.out 2 (.int .i64 t538); have hfz180_0 := blk_frozen BK540.out 0; have hfz180_1 := blk_frozen BK540.out 1; have hfz180_2 := blk_frozen BK540.out 2; have hnb181 := NB547_456.out; have hnc181 := NB456_547.out; have hnb182 := NB547_463.out; have hnc182 := NB463_547.out; have hnb183 := NB547_507.out; have hnc183 := NB507_547.out; have hnb184 := NB547_532.out; have hnc184 := NB532_547.out; have hnb185 := NB547_533.out; have hnc185 := NB533_547.out; have hcz186_0 := cq_ BK547.out 0 (.int .i64 t541); have hcz186_1 := cq_ BK547.out 1 (.slice Ao150 t542.length co150); have hcz186_2 := cq_ BK547.out 2 (.int .i64 t545); have hfz186_0 := blk_frozen BK547.out 0; have hfz186_1 := blk_frozen BK547.out 1; have hfz186_2 := blk_frozen BK547.out 2) | (go_at_call 42; (with_reducible refine (laws_sameDiagram.calls kj25 t534 _ _ t535 t538 t541 _ _ t542 t545 t549 _ ?side1 ?side2 ?side3 ?side4 A155.out).mono ?_); (case side1 => exact cm_ (Kd.R_reads' HO537.out).2.2); (case side2 => exact (Kd.R_reads' HO537.out).2.1); (case side3 => exact cm_ (Kd.R_reads' HO544.out).2.2); (case side4 => exact (Kd.R_reads' HO544.out).2.1); rintro e w187 ⟨rfl, hb⟩; replace HO_457001 := am_ (Kd.R_below (rq_ HO_457001.out) hb); replace HO_464001 := am_ (Kd.R_below (rq_ HO_464001.out) hb); replace HO503 := am_ (Kd.R_below (rq_ HO503.out) hb); replace HO511 := am_ (Kd.R_below (rq_ HO511.out) hb); replace HO518 := am_ (Kd.R_below (rq_ HO518.out) hb); replace HO525 := am_ (Kd.R_below (rq_ HO525.out) hb); replace HO530 := am_ (Kd.R_below (rq_ HO530.out) hb); replace HO537 := am_ (Kd.R_below (rq_ HO537.out) hb); replace HO544 := am_ (Kd.R_below (rq_ HO544.out) hb); replace BK456 := bb_ BK456 hb; replace BK463 := bb_ BK463 hb; replace BK507 := bb_ BK507 hb; replace BK514 := bb_ BK514 hb; replace BK521 := bb_ BK521 hb; replace BK532 := bb_ BK532 hb; replace BK533 := bb_ BK533 hb; replace BK540 := bb_ BK540 hb; replace BK547 := bb_ BK547 hb; replace HB := bs_ hb; (try clear hb)))
            go_meet
            case rel => exact ⟨_, (!t549), y30_, H', ⟨by have := HJ6.out; have := HJ25.out; first | omega | exact Nat.le_refl _⟩, ⟨rq_ (Kd.R_mono HO_457001.out (fun _ hk => ⟨hk.1.1.1.1.1.1.1, ⟨hk.1.1.1.1.1.1.2, ⟨hk.1.1.1.1.1.2, ⟨hk.1.1.1.1.2, ⟨hk.1.1.1.2, ⟨hk.1.1.2, ⟨hk.1.2, hk.2⟩⟩⟩⟩⟩⟩⟩))⟩, ⟨rq_ (Kd.R_mono HO_464001.out (fun _ hk => ⟨hk.1.1.1.1.1.1.1, ⟨hk.1.1.1.1.1.1.2, ⟨hk.1.1.1.1.1.2, ⟨hk.1.1.1.1.2, ⟨hk.1.1.1.2, ⟨hk.1.1.2, ⟨hk.1.2, hk.2⟩⟩⟩⟩⟩⟩⟩))⟩, ⟨rq_ (Kd.R_mono HO503.out (fun _ hk => ⟨hk.1.1.1.1.1.1.1.2, ⟨hk.1.1.1.1.1.1.2, ⟨hk.1.1.1.1.1.2, ⟨hk.1.1.1.1.2, ⟨hk.1.1.1.2, ⟨hk.1.1.2, ⟨hk.1.2, hk.2⟩⟩⟩⟩⟩⟩⟩))⟩, ⟨rq_ (Kd.R_mono HO511.out (fun _ hk => ⟨hk.1.1.1.1.1.1.1.2, ⟨hk.1.1.1.1.1.1.2, ⟨hk.1.1.1.1.1.2, ⟨hk.1.1.1.1.2, ⟨hk.1.1.1.2, ⟨hk.1.1.2, ⟨hk.1.2, hk.2⟩⟩⟩⟩⟩⟩⟩))⟩, ⟨rq_ (Kd.R_mono HO518.out (fun _ hk => ⟨hk.1.1.1.1.1.1.1.2, ⟨hk.1.1.1.1.1.1.2, ⟨hk.1.1.1.1.1.2, ⟨hk.1.1.1.1.2, ⟨hk.1.1.1.2, ⟨hk.1.1.2, ⟨hk.1.2, hk.2⟩⟩⟩⟩⟩⟩⟩))⟩, ⟨rq_ (Kd.R_mono HO525.out (fun _ hk => ⟨hk.1.1.1.1.1.1.2, ⟨hk.1.1.1.1.1.2, ⟨hk.1.1.1.1.2, ⟨hk.1.1.1.2, ⟨hk.1.1.2, ⟨hk.1.1.1.1.1.1.1, ⟨hk.1.2, hk.2⟩⟩⟩⟩⟩⟩⟩))⟩, ⟨rq_ (Kd.R_mono HO530.out (fun _ hk => ⟨hk.1.1.1.1.1.1.2, ⟨hk.1.1.1.1.1.2, ⟨hk.1.1.1.1.2, ⟨hk.1.1.1.2, ⟨hk.1.1.2, ⟨hk.1.1.1.1.1.1.1, ⟨hk.1.2, hk.2⟩⟩⟩⟩⟩⟩⟩))⟩, ⟨rq_ (Kd.R_mono HO537.out (fun _ hk => ⟨hk.1.1.1.1.1.1.1.2, ⟨hk.1.1.1.1.1.1.2, ⟨hk.1.1.1.1.1.2, ⟨hk.1.1.1.1.2, ⟨hk.1.1.1.2, ⟨hk.1.1.2, ⟨hk.1.2, hk.2⟩⟩⟩⟩⟩⟩⟩))⟩, ⟨rq_ (Kd.R_mono HO544.out (fun _ hk => ⟨hk.1.1.1.1.1.1.1.2, ⟨hk.1.1.1.1.1.1.2, ⟨hk.1.1.1.1.1.2, ⟨hk.1.1.1.1.2, ⟨hk.1.1.1.2, ⟨hk.1.1.2, ⟨hk.1.2, hk.2⟩⟩⟩⟩⟩⟩⟩))⟩, ⟨bk_ BK456.out⟩, ⟨bk_ BK463.out⟩, ⟨bk_ BK507.out⟩, ⟨bk_ BK514.out⟩, ⟨bk_ BK521.out⟩, ⟨bk_ BK532.out⟩, ⟨bk_ BK533.out⟩, ⟨bk_ BK540.out⟩, ⟨bk_ BK547.out⟩, ⟨bq_⟩⟩
         ·replace c153 := Bool.eq_false_iff.mpr c153
          subst c153
          have H1 : (laws_FnByClauses.j2 kj25 t505 t506 t513 true t500 t501 t504 t508 t509 t512) = some r := by rw [if_neg (show ¬ (false = true) by decide)] at H; exact H
          clear H
          have H := H1
          clear H1
          exact (laws_FnByClauses.j2_no_3 (by rw [hr_.out] at H; exact H)).elim
       case rest =>
        clear HC85
        try clear c1
        try clear c2
        try clear p2
        try clear c3
        try clear c3b0
        try clear c4
        try clear c5
        try clear q5
        try clear c6
        try clear p6
        try clear q6
        try clear c7
        try clear c8
        try clear c9
        try clear c10
        try clear c11
        try clear c12
        try clear c13
        try clear c14
        try clear c15
        try clear c16
        try clear c17
        try clear c18
        try clear c19
        try clear c19b0
        try clear c19b1
        try clear c19b2
        try clear c21
        try clear c25
        try clear c27
        try clear c29
        try clear c30
        try clear c31
        try clear c31b0
        try clear c31b1
        try clear c32
        try clear c33
        try clear c33b0
        try clear c33b1
        try clear c34
        try clear c34b0
        try clear c34b1
        try clear c36
        try clear c36b0
        try clear c37
        try clear c37b0
        try clear c40
        try clear c41
        try clear c42
        try clear c42b0
        try clear c42b1
        try clear c43
        try clear c44
        try clear c45
        try clear c47
        try clear c48
        try clear c49
        try clear c50
        try clear c51
        try clear c52
        try clear q52
        try clear c53
        try clear c55
        try clear c56
        try clear c60
        try clear q60
        try clear c63
        try clear c64
        try clear p64
        try clear c65
        try clear c71
        try clear c72
        try clear c73
        try clear c74
        try clear c88
        try clear c89
        try clear c94
        try clear c95
        try clear c96
        try clear c102
        try clear c103
        try clear c104
        try clear c105
        try clear c111
        try clear c112
        try clear c113
        try clear c114
        try clear c115
        try clear c116
        try clear c119
        try clear c120
        try clear c121
        try clear c122
        try clear c123
        try clear c128
        try clear c129
        try clear c130
        try clear c131
        try clear c132
        try clear c133
        try clear c134
        try clear c141
        try clear c142
        try clear c143
        try clear c144
        try clear c145
        try clear c146
        try clear c147
        try clear c148
        try clear c151
        try clear c151b0
        try clear c151b1
        try clear c151b2
        try clear c153
        try clear c154
        try clear c154b0
        try clear c154b1
        try clear c154b2
        try clear c156
        try clear c157
        try clear c158
        try clear c159
        try clear c160
        try clear c161
        try clear c162
        try clear c163
        try clear c165
        try clear c166
        try clear c167
        try clear c168
        try clear c169
        try clear c170
        try clear c171
        try clear c174
        try clear c175
        try clear c176
        try clear c177
        try clear c178
        try clear c179
        try clear c181
        try clear c182
        try clear c183
        try clear c184
        try clear c185
        try clear hcz106_0
        try clear hcz106_1
        try clear hcz106_2
        try clear hcz117_0
        try clear hcz117_1
        try clear hcz117_2
        try clear hcz124_0
        try clear hcz124_1
        try clear hcz124_2
        try clear hcz12_0
        try clear hcz12_1
        try clear hcz12_2
        try clear hcz135_0
        try clear hcz135_1
        try clear hcz135_2
        try clear hcz137_0
        try clear hcz137_1
        try clear hcz137_2
        try clear hcz138_0
        try clear hcz138_1
        try clear hcz138_2
        try clear hcz149_0
        try clear hcz149_1
        try clear hcz149_2
        try clear hcz164_0
        try clear hcz164_1
        try clear hcz164_2
        try clear hcz172_0
        try clear hcz172_1
        try clear hcz172_2
        try clear hcz17_0
        try clear hcz17_1
        try clear hcz17_2
        try clear hcz180_0
        try clear hcz180_1
        try clear hcz180_2
        try clear hcz186_0
        try clear hcz186_1
        try clear hcz186_2
        try clear hcz22_0
        try clear hcz22_1
        try clear hcz22_2
        try clear hcz23_0
        try clear hcz23_1
        try clear hcz23_2
        try clear hcz49_0
        try clear hcz49_1
        try clear hcz49_2
        try clear hcz57_0
        try clear hcz57_1
        try clear hcz57_2
        try clear hcz66_0
        try clear hcz66_1
        try clear hcz66_2
        try clear hcz68_0
        try clear hcz68_1
        try clear hcz68_2
        try clear hcz75_0
        try clear hcz75_1
        try clear hcz75_2
        try clear hcz77_0
        try clear hcz77_1
        try clear hcz77_2
        try clear hcz90_0
        try clear hcz90_1
        try clear hcz90_2
        try clear hcz97_0
        try clear hcz97_1
        try clear hcz97_2
        try clear hcz99_0
        try clear hcz99_1
        try clear hcz99_2
        try clear hfz106_0
        try clear hfz106_1
        try clear hfz106_2
        try clear hfz117_0
        try clear hfz117_1
        try clear hfz117_2
        try clear hfz124_0
        try clear hfz124_1
        try clear hfz124_2
        try clear hfz12_0
        try clear hfz12_1
        try clear hfz12_2
        try clear hfz135_0
        try clear hfz135_1
        try clear hfz135_2
        try clear hfz137_0
        try clear hfz137_1
        try clear hfz137_2
        try clear hfz138_0
        try clear hfz138_1
        try clear hfz138_2
        try clear hfz149_0
        try clear hfz149_1
        try clear hfz149_2
        try clear hfz164_0
        try clear hfz164_1
        try clear hfz164_2
        try clear hfz172_0
        try clear hfz172_1
        try clear hfz172_2
        try clear hfz17_0
        try clear hfz17_1
        try clear hfz17_2
        try clear hfz180_0
        try clear hfz180_1
        try clear hfz180_2
        try clear hfz186_0
        try clear hfz186_1
        try clear hfz186_2
        try clear hfz22_0
        try clear hfz22_1
        try clear hfz22_2
        try clear hfz23_0
        try clear hfz23_1
        try clear hfz23_2
        try clear hfz49_0
        try clear hfz49_1
        try clear hfz49_2
        try clear hfz57_0
        try clear hfz57_1
        try clear hfz57_2
        try clear hfz66_0
        try clear hfz66_1
        try clear hfz66_2
        try clear hfz68_0
        try clear hfz68_1
        try clear hfz68_2
        try clear hfz75_0
        try clear hfz75_1
        try clear hfz75_2
        try clear hfz77_0
        try clear hfz77_1
        try clear hfz77_2
        try clear hfz90_0
        try clear hfz90_1
        try clear hfz90_2
        try clear hfz97_0
        try clear hfz97_1
        try clear hfz97_2
        try clear hfz99_0
        try clear hfz99_1
        try clear hfz99_2
        try clear p2
        try clear p6
        try clear p64
        try clear q060
        try clear q5
        try clear q52
        try clear q6
        try clear q60
        obtain ⟨kq, x202_84, rfl, HA, HJ84, HO_457001, HO_464001, HO_508001, HO_515001, HO_522001, HO_533001, HO_534001, HO_541001, HO_548001, BK456, BK463, BK507, BK514, BK521, BK532, BK533, BK540, BK547, HB⟩ := hcut
        cases kq with
        | zero => exact absurd HA.out (by simp [laws_FnByClauses.j2])
        | succ kj84 =>
         have H := HA.out
         clear HA
         simp only [laws_FnByClauses.j2] at H
         by_cases c188 : x202_84 = true
         ·subst c188
          have H1 : (some false) = some r := by rw [if_pos rfl] at H; exact H
          clear H
          have H := H1
          clear H1
          exact absurd (Option.some.inj H).symm (by rw [hr_.out]; simp)
         ·replace c188 := Bool.eq_false_iff.mpr c188
          subst c188
          have H1 : (if t513 = true then (laws_FnByClauses.l0 kj84 t505 t506 t509 (t509.length : Int) 0 t500 t501 t504 t508 t509 t512) else (some true)) = some r := by rw [if_neg (show ¬ (false = true) by decide)] at H; exact H
          clear H
          have H := H1
          clear H1
          by_cases c189 : t513 = true
          ·subst c189
           have H1 : (laws_FnByClauses.l0 kj84 t505 t506 t509 (t509.length : Int) 0 t500 t501 t504 t508 t509 t512) = some r := by rw [if_pos rfl] at H; exact H
           clear H
           have H := H1
           clear H1
           as_aux_lemma =>
            have H' := am_ H
            clear H
            have hnb190 := NB514_456.out
            have hnc190 := NB456_514.out
            have hnb191 := NB514_463.out
            have hnc191 := NB463_514.out
            have hnb192 := NB514_507.out
            have hnc192 := NB507_514.out
            have hnb193 := NB514_521.out
            have hnc193 := NB521_514.out
            have hnb194 := NB514_532.out
            have hnc194 := NB532_514.out
            have hnb195 := NB514_533.out
            have hnc195 := NB533_514.out
            have hnb196 := NB514_540.out
            have hnc196 := NB540_514.out
            have hnb197 := NB514_547.out
            have hnc197 := NB547_514.out
            have hcz198_0 := cq_ BK514.out 0 (.int .i64 t508)
            have hcz198_1 := cq_ BK514.out 1 (.slice Ao98 t509.length co98)
            have hcz198_2 := cq_ BK514.out 2 (.int .i64 t512)
            have hfz198_0 := blk_frozen BK514.out 0
            have hfz198_1 := blk_frozen BK514.out 1
            have hfz198_2 := blk_frozen BK514.out 2
            go_wp2
            go_loopg [207] kj84 (fun kq v207 w' => ∃ (x207_4 : Int), v207 = .int .i64 x207_4 ∧ Aside0 (laws_FnByClauses.l0 kq t505 t506 t509 (t509.length : Int) x207_4 t500 t501 t504 t508 t509 t512 = some r) ∧ Aside0 (kq ≤ kj84) ∧ Aside0 (Kd.R k75 75 w' w.heap.size (fun k_ => some k_ ≠ ((.slice Ao13 t451.length co13) : Value).ownBlock ∧ some k_ ≠ ((.slice Ao18 t458.length co18) : Value).ownBlock ∧ some k_ ≠ ((.slice Ao91 t501.length co91) : Value).ownBlock ∧ some k_ ≠ ((.slice Ao107 t516.length co107) : Value).ownBlock ∧ some k_ ≠ ((.slice Ao118 t523.length co118) : Value).ownBlock ∧ some k_ ≠ ((.slice Ao125 t528.length co125) : Value).ownBlock ∧ some k_ ≠ ((.slice Ao136 t535.length co136) : Value).ownBlock ∧ some k_ ≠ ((.slice Ao150 t542.length co150) : Value).ownBlock) (.slice Ao98 t509.length co98) t509) ∧ Aside0 (Kd.R k75 75 w' w.heap.size (fun k_ => some k_ ≠ ((.slice Ao98 t509.length co98) : Value).ownBlock ∧ some k_ ≠ ((.slice Ao18 t458.length co18) : Value).ownBlock ∧ some k_ ≠ ((.slice Ao91 t501.length co91) : Value).ownBlock ∧ some k_ ≠ ((.slice Ao98 t509.length co98) : Value).ownBlock ∧ some k_ ≠ ((.slice Ao107 t516.length co107) : Value).ownBlock ∧ some k_ ≠ ((.slice Ao118 t523.length co118) : Value).ownBlock ∧ some k_ ≠ ((.slice Ao125 t528.length co125) : Value).ownBlock ∧ some k_ ≠ ((.slice Ao136 t535.length co136) : Value).ownBlock ∧ some k_ ≠ ((.slice Ao150 t542.length co150) : Value).ownBlock) (.slice Ao13 t451.length co13) t451) ∧ Aside0 (Kd.R k75 75 w' w.heap.size (fun k_ => some k_ ≠ ((.slice Ao98 t509.length co98) : Value).ownBlock ∧ some k_ ≠ ((.slice Ao13 t451.length co13) : Value).ownBlock ∧ some k_ ≠ ((.slice Ao91 t501.length co91) : Value).ownBlock ∧ some k_ ≠ ((.slice Ao98 t509.length co98) : Value).ownBlock ∧ some k_ ≠ ((.slice Ao107 t516.length co107) : Value).ownBlock ∧ some k_ ≠ ((.slice Ao118 t523.length co118) : Value).ownBlock ∧ some k_ ≠ ((.slice Ao125 t528.length co125) : Value).ownBlock ∧ some k_ ≠ ((.slice Ao136 t535.length co136) : Value).ownBlock ∧ some k_ ≠ ((.slice Ao150 t542.length co150) : Value).ownBlock) (.slice Ao18 t458.length co18) t458) ∧ Aside0 (Kd.R k75 75 w' w.heap.size (fun k_ => some k_ ≠ ((.slice Ao98 t509.length co98) : Value).ownBlock ∧ some k_ ≠ ((.slice Ao13 t451.length co13) : Value).ownBlock ∧ some k_ ≠ ((.slice Ao18 t458.length co18) : Value).ownBlock ∧ some k_ ≠ ((.slice Ao98 t509.length co98) : Value).ownBlock ∧ some k_ ≠ ((.slice Ao107 t516.length co107) : Value).ownBlock ∧ some k_ ≠ ((.slice Ao118 t523.length co118) : Value).ownBlock ∧ some k_ ≠ ((.slice Ao125 t528.length co125) : Value).ownBlock ∧ some k_ ≠ ((.slice Ao136 t535.length co136) : Value).ownBlock ∧ some k_ ≠ ((.slice Ao150 t542.length co150) : Value).ownBlock) (.slice Ao91 t501.length co91) t501) ∧ Aside0 (Kd.R k75 75 w' w.heap.size (fun k_ => some k_ ≠ ((.slice Ao13 t451.length co13) : Value).ownBlock ∧ some k_ ≠ ((.slice Ao18 t458.length co18) : Value).ownBlock ∧ some k_ ≠ ((.slice Ao91 t501.length co91) : Value).ownBlock ∧ some k_ ≠ ((.slice Ao107 t516.length co107) : Value).ownBlock ∧ some k_ ≠ ((.slice Ao118 t523.length co118) : Value).ownBlock ∧ some k_ ≠ ((.slice Ao125 t528.length co125) : Value).ownBlock ∧ some k_ ≠ ((.slice Ao136 t535.length co136) : Value).ownBlock ∧ some k_ ≠ ((.slice Ao150 t542.length co150) : Value).ownBlock) (.slice Ao98 t509.length co98) t509) ∧ Aside0 (Kd.R k75 75 w' w.heap.size (fun k_ => some k_ ≠ ((.slice Ao98 t509.length co98) : Value).ownBlock ∧ some k_ ≠ ((.slice Ao13 t451.length co13) : Value).ownBlock ∧ some k_ ≠ ((.slice Ao18 t458.length co18) : Value).ownBlock ∧ some k_ ≠ ((.slice Ao91 t501.length co91) : Value).ownBlock ∧ some k_ ≠ ((.slice Ao98 t509.length co98) : Value).ownBlock ∧ some k_ ≠ ((.slice Ao118 t523.length co118) : Value).ownBlock ∧ some k_ ≠ ((.slice Ao125 t528.length co125) : Value).ownBlock ∧ some k_ ≠ ((.slice Ao136 t535.length co136) : Value).ownBlock ∧ some k_ ≠ ((.slice Ao150 t542.length co150) : Value).ownBlock) (.slice Ao107 t516.length co107) t516) ∧ Aside0 (Kd.R k75 75 w' w.heap.size (fun k_ => some k_ ≠ ((.slice Ao98 t509.length co98) : Value).ownBlock ∧ some k_ ≠ ((.slice Ao13 t451.length co13) : Value).ownBlock ∧ some k_ ≠ ((.slice Ao18 t458.length co18) : Value).ownBlock ∧ some k_ ≠ ((.slice Ao91 t501.length co91) : Value).ownBlock ∧ some k_ ≠ ((.slice Ao98 t509.length co98) : Value).ownBlock ∧ some k_ ≠ ((.slice Ao107 t516.length co107) : Value).ownBlock ∧ some k_ ≠ ((.slice Ao125 t528.length co125) : Value).ownBlock ∧ some k_ ≠ ((.slice Ao136 t535.length co136) : Value).ownBlock ∧ some k_ ≠ ((.slice Ao150 t542.length co150) : Value).ownBlock) (.slice Ao118 t523.length co118) t523) ∧ Aside0 (Kd.R k75 75 w' w.heap.size (fun k_ => some k_ ≠ ((.slice Ao98 t509.length co98) : Value).ownBlock ∧ some k_ ≠ ((.slice Ao13 t451.length co13) : Value).ownBlock ∧ some k_ ≠ ((.slice Ao18 t458.length co18) : Value).ownBlock ∧ some k_ ≠ ((.slice Ao91 t501.length co91) : Value).ownBlock ∧ some k_ ≠ ((.slice Ao98 t509.length co98) : Value).ownBlock ∧ some k_ ≠ ((.slice Ao107 t516.length co107) : Value).ownBlock ∧ some k_ ≠ ((.slice Ao118 t523.length co118) : Value).ownBlock ∧ some k_ ≠ ((.slice Ao136 t535.length co136) : Value).ownBlock ∧ some k_ ≠ ((.slice Ao150 t542.length co150) : Value).ownBlock) (.slice Ao125 t528.length co125) t528) ∧ Aside0 (Kd.R k75 75 w' w.heap.size (fun k_ => some k_ ≠ ((.slice Ao98 t509.length co98) : Value).ownBlock ∧ some k_ ≠ ((.slice Ao13 t451.length co13) : Value).ownBlock ∧ some k_ ≠ ((.slice Ao18 t458.length co18) : Value).ownBlock ∧ some k_ ≠ ((.slice Ao91 t501.length co91) : Value).ownBlock ∧ some k_ ≠ ((.slice Ao98 t509.length co98) : Value).ownBlock ∧ some k_ ≠ ((.slice Ao107 t516.length co107) : Value).ownBlock ∧ some k_ ≠ ((.slice Ao118 t523.length co118) : Value).ownBlock ∧ some k_ ≠ ((.slice Ao125 t528.length co125) : Value).ownBlock ∧ some k_ ≠ ((.slice Ao150 t542.length co150) : Value).ownBlock) (.slice Ao136 t535.length co136) t535) ∧ Aside0 (Kd.R k75 75 w' w.heap.size (fun k_ => some k_ ≠ ((.slice Ao98 t509.length co98) : Value).ownBlock ∧ some k_ ≠ ((.slice Ao13 t451.length co13) : Value).ownBlock ∧ some k_ ≠ ((.slice Ao18 t458.length co18) : Value).ownBlock ∧ some k_ ≠ ((.slice Ao91 t501.length co91) : Value).ownBlock ∧ some k_ ≠ ((.slice Ao98 t509.length co98) : Value).ownBlock ∧ some k_ ≠ ((.slice Ao107 t516.length co107) : Value).ownBlock ∧ some k_ ≠ ((.slice Ao118 t523.length co118) : Value).ownBlock ∧ some k_ ≠ ((.slice Ao125 t528.length co125) : Value).ownBlock ∧ some k_ ≠ ((.slice Ao136 t535.length co136) : Value).ownBlock) (.slice Ao150 t542.length co150) t542) ∧ Aside0 (w'.heap[gb456]? = some (.cells #[.int .i64 t450, (.slice Ao13 t451.length co13), .int .i64 t454] 30 (0, 0))) ∧ Aside0 (w'.heap[gb463]? = some (.cells #[.int .i64 t457, (.slice Ao18 t458.length co18), .int .i64 t461] 30 (0, 0))) ∧ Aside0 (w'.heap[gb507]? = some (.cells #[.int .i64 t500, (.slice Ao91 t501.length co91), .int .i64 t504] 30 (0, 0))) ∧ Aside0 (w'.heap[gb514]? = some (.cells #[.int .i64 t508, (.slice Ao98 t509.length co98), .int .i64 t512] 30 (0, 0))) ∧ Aside0 (w'.heap[gb521]? = some (.cells #[.int .i64 t515, (.slice Ao107 t516.length co107), .int .i64 t519] 30 (0, 0))) ∧ Aside0 (w'.heap[gb532]? = some (.cells #[.int .i64 t522, (.slice Ao118 t523.length co118), .int .i64 t526] 30 (0, 0))) ∧ Aside0 (w'.heap[gb533]? = some (.cells #[.int .i64 t527, (.slice Ao125 t528.length co125), .int .i64 t531] 30 (0, 0))) ∧ Aside0 (w'.heap[gb540]? = some (.cells #[.int .i64 t534, (.slice Ao136 t535.length co136), .int .i64 t538] 30 (0, 0))) ∧ Aside0 (w'.heap[gb547]? = some (.cells #[.int .i64 t541, (.slice Ao150 t542.length co150), .int .i64 t545] 30 (0, 0))) ∧ Aside0 (Below w.heap.size w w'))
            case atStart => exact ⟨(0), y30_, H', ⟨Nat.le_refl _⟩, ⟨rq_ HO_515001.out⟩, ⟨rq_ (Kd.R_mono HO_457001.out (fun _ hk => ⟨hk.2.2.1, ⟨hk.1, ⟨hk.2.1, ⟨hk.2.2.1, ⟨hk.2.2.2.1, ⟨hk.2.2.2.2.1, ⟨hk.2.2.2.2.2.1, ⟨hk.2.2.2.2.2.2.1, hk.2.2.2.2.2.2.2⟩⟩⟩⟩⟩⟩⟩⟩))⟩, ⟨rq_ (Kd.R_mono HO_464001.out (fun _ hk => ⟨hk.2.2.1, ⟨hk.1, ⟨hk.2.1, ⟨hk.2.2.1, ⟨hk.2.2.2.1, ⟨hk.2.2.2.2.1, ⟨hk.2.2.2.2.2.1, ⟨hk.2.2.2.2.2.2.1, hk.2.2.2.2.2.2.2⟩⟩⟩⟩⟩⟩⟩⟩))⟩, ⟨rq_ (Kd.R_mono HO_508001.out (fun _ hk => ⟨hk.2.2.1, ⟨hk.1, ⟨hk.2.1, ⟨hk.2.2.1, ⟨hk.2.2.2.1, ⟨hk.2.2.2.2.1, ⟨hk.2.2.2.2.2.1, ⟨hk.2.2.2.2.2.2.1, hk.2.2.2.2.2.2.2⟩⟩⟩⟩⟩⟩⟩⟩))⟩, ⟨rq_ HO_515001.out⟩, ⟨rq_ (Kd.R_mono HO_522001.out (fun _ hk => ⟨hk.2.2.2.1, ⟨hk.1, ⟨hk.2.1, ⟨hk.2.2.1, ⟨hk.2.2.2.1, ⟨hk.2.2.2.2.1, ⟨hk.2.2.2.2.2.1, ⟨hk.2.2.2.2.2.2.1, hk.2.2.2.2.2.2.2⟩⟩⟩⟩⟩⟩⟩⟩))⟩, ⟨rq_ (Kd.R_mono HO_533001.out (fun _ hk => ⟨hk.2.2.2.1, ⟨hk.1, ⟨hk.2.1, ⟨hk.2.2.1, ⟨hk.2.2.2.1, ⟨hk.2.2.2.2.1, ⟨hk.2.2.2.2.2.1, ⟨hk.2.2.2.2.2.2.1, hk.2.2.2.2.2.2.2⟩⟩⟩⟩⟩⟩⟩⟩))⟩, ⟨rq_ (Kd.R_mono HO_534001.out (fun _ hk => ⟨hk.2.2.2.1, ⟨hk.1, ⟨hk.2.1, ⟨hk.2.2.1, ⟨hk.2.2.2.1, ⟨hk.2.2.2.2.1, ⟨hk.2.2.2.2.2.1, ⟨hk.2.2.2.2.2.2.1, hk.2.2.2.2.2.2.2⟩⟩⟩⟩⟩⟩⟩⟩))⟩, ⟨rq_ (Kd.R_mono HO_541001.out (fun _ hk => ⟨hk.2.2.2.1, ⟨hk.1, ⟨hk.2.1, ⟨hk.2.2.1, ⟨hk.2.2.2.1, ⟨hk.2.2.2.2.1, ⟨hk.2.2.2.2.2.1, ⟨hk.2.2.2.2.2.2.1, hk.2.2.2.2.2.2.2⟩⟩⟩⟩⟩⟩⟩⟩))⟩, ⟨rq_ (Kd.R_mono HO_548001.out (fun _ hk => ⟨hk.2.2.2.1, ⟨hk.1, ⟨hk.2.1, ⟨hk.2.2.1, ⟨hk.2.2.2.1, ⟨hk.2.2.2.2.1, ⟨hk.2.2.2.2.2.1, ⟨hk.2.2.2.2.2.2.1, hk.2.2.2.2.2.2.2⟩⟩⟩⟩⟩⟩⟩⟩))⟩, ⟨bk_ BK456.out⟩, ⟨bk_ BK463.out⟩, ⟨bk_ BK507.out⟩, ⟨bk_ BK514.out⟩, ⟨bk_ BK521.out⟩, ⟨bk_ BK532.out⟩, ⟨bk_ BK533.out⟩, ⟨bk_ BK540.out⟩, ⟨bk_ BK547.out⟩, ⟨bq_⟩⟩
            case round =>
             clear H'
             try clear c1
             try clear c2
             try clear p2
             try clear c3
             try clear c3b0
             try clear c4
             try clear c5
             try clear q5
             try clear c6
             try clear p6
             try clear q6
             try clear c7
             try clear c8
             try clear c9
             try clear c10
             try clear c11
             try clear c12
             try clear c13
             try clear c14
             try clear c15
             try clear c16
             try clear c17
             try clear c18
             try clear c19
             try clear c19b0
             try clear c19b1
             try clear c19b2
             try clear c21
             try clear c25
             try clear c27
             try clear c29
             try clear c30
             try clear c31
             try clear c31b0
             try clear c31b1
             try clear c32
             try clear c33
             try clear c33b0
             try clear c33b1
             try clear c34
             try clear c34b0
             try clear c34b1
             try clear c36
             try clear c36b0
             try clear c37
             try clear c37b0
             try clear c40
             try clear c41
             try clear c42
             try clear c42b0
             try clear c42b1
             try clear c43
             try clear c44
             try clear c45
             try clear c47
             try clear c48
             try clear c49
             try clear c50
             try clear c51
             try clear c52
             try clear q52
             try clear c53
             try clear c55
             try clear c56
             try clear c60
             try clear q60
             try clear c63
             try clear c64
             try clear p64
             try clear c65
             try clear c71
             try clear c72
             try clear c73
             try clear c74
             try clear c88
             try clear c89
             try clear c94
             try clear c95
             try clear c96
             try clear c102
             try clear c103
             try clear c104
             try clear c105
             try clear c111
             try clear c112
             try clear c113
             try clear c114
             try clear c115
             try clear c116
             try clear c119
             try clear c120
             try clear c121
             try clear c122
             try clear c123
             try clear c128
             try clear c129
             try clear c130
             try clear c131
             try clear c132
             try clear c133
             try clear c134
             try clear c141
             try clear c142
             try clear c143
             try clear c144
             try clear c145
             try clear c146
             try clear c147
             try clear c148
             try clear c151
             try clear c151b0
             try clear c151b1
             try clear c151b2
             try clear c153
             try clear c154
             try clear c154b0
             try clear c154b1
             try clear c154b2
             try clear c156
             try clear c157
             try clear c158
             try clear c159
             try clear c160
             try clear c161
             try clear c162
             try clear c163
             try clear c165
             try clear c166
             try clear c167
             try clear c168
             try clear c169
             try clear c170
             try clear c171
             try clear c174
             try clear c175
             try clear c176
             try clear c177
             try clear c178
             try clear c179
             try clear c181
             try clear c182
             try clear c183
             try clear c184
             try clear c185
             try clear c188
             try clear c189
             try clear c190
             try clear c191
             try clear c192
             try clear c193
             try clear c194
             try clear c195
             try clear c196
             try clear c197
             try clear hcz106_0
             try clear hcz106_1
             try clear hcz106_2
             try clear hcz117_0
             try clear hcz117_1
             try clear hcz117_2
             try clear hcz124_0
             try clear hcz124_1
             try clear hcz124_2
             try clear hcz12_0
             try clear hcz12_1
             try clear hcz12_2
             try clear hcz135_0
             try clear hcz135_1
             try clear hcz135_2
             try clear hcz137_0
             try clear hcz137_1
             try clear hcz137_2
             try clear hcz138_0
             try clear hcz138_1
             try clear hcz138_2
             try clear hcz149_0
             try clear hcz149_1
             try clear hcz149_2
             try clear hcz164_0
             try clear hcz164_1
             try clear hcz164_2
             try clear hcz172_0
             try clear hcz172_1
             try clear hcz172_2
             try clear hcz17_0
             try clear hcz17_1
             try clear hcz17_2
             try clear hcz180_0
             try clear hcz180_1
             try clear hcz180_2
             try clear hcz186_0
             try clear hcz186_1
             try clear hcz186_2
             try clear hcz198_0
             try clear hcz198_1
             try clear hcz198_2
             try clear hcz22_0
             try clear hcz22_1
             try clear hcz22_2
             try clear hcz23_0
             try clear hcz23_1
             try clear hcz23_2
             try clear hcz49_0
             try clear hcz49_1
             try clear hcz49_2
             try clear hcz57_0
             try clear hcz57_1
             try clear hcz57_2
             try clear hcz66_0
             try clear hcz66_1
             try clear hcz66_2
             try clear hcz68_0
             try clear hcz68_1
             try clear hcz68_2
             try clear hcz75_0
             try clear hcz75_1
             try clear hcz75_2
             try clear hcz77_0
             try clear hcz77_1
             try clear hcz77_2
             try clear hcz90_0
             try clear hcz90_1
             try clear hcz90_2
             try clear hcz97_0
             try clear hcz97_1
             try clear hcz97_2
             try clear hcz99_0
             try clear hcz99_1
             try clear hcz99_2
             try clear hfz106_0
             try clear hfz106_1
             try clear hfz106_2
             try clear hfz117_0
             try clear hfz117_1
             try clear hfz117_2
             try clear hfz124_0
             try clear hfz124_1
             try clear hfz124_2
             try clear hfz12_0
             try clear hfz12_1
             try clear hfz12_2
             try clear hfz135_0
             try clear hfz135_1
             try clear hfz135_2
             try clear hfz137_0
             try clear hfz137_1
             try clear hfz137_2
             try clear hfz138_0
             try clear hfz138_1
             try clear hfz138_2
             try clear hfz149_0
             try clear hfz149_1
             try clear hfz149_2
             try clear hfz164_0
             try clear hfz164_1
             try clear hfz164_2
             try clear hfz172_0
             try clear hfz172_1
             try clear hfz172_2
             try clear hfz17_0
             try clear hfz17_1
             try clear hfz17_2
             try clear hfz180_0
             try clear hfz180_1
             try clear hfz180_2
             try clear hfz186_0
             try clear hfz186_1
             try clear hfz186_2
             try clear hfz198_0
             try clear hfz198_1
             try clear hfz198_2
             try clear hfz22_0
             try clear hfz22_1
             try clear hfz22_2
             try clear hfz23_0
             try clear hfz23_1
             try clear hfz23_2
             try clear hfz49_0
             try clear hfz49_1
             try clear hfz49_2
             try clear hfz57_0
             try clear hfz57_1
             try clear hfz57_2
             try clear hfz66_0
             try clear hfz66_1
             try clear hfz66_2
             try clear hfz68_0
             try clear hfz68_1
             try clear hfz68_2
             try clear hfz75_0
             try clear hfz75_1
             try clear hfz75_2
             try clear hfz77_0
             try clear hfz77_1
             try clear hfz77_2
             try clear hfz90_0
             try clear hfz90_1
             try clear hfz90_2
             try clear hfz97_0
             try clear hfz97_1
             try clear hfz97_2
             try clear hfz99_0
             try clear hfz99_1
             try clear hfz99_2
             try clear p2
             try clear p6
             try clear p64
             try clear q060
             try clear q5
             try clear q52
             try clear q6
             try clear q60
             obtain ⟨x207_4, rfl, HA, HK4, HO_205, HO_457001, HO_464001, HO_508001, HO_515001, HO_522001, HO_533001, HO_534001, HO_541001, HO_548001, BK456, BK463, BK507, BK514, BK521, BK532, BK533, BK540, BK547, HB⟩ := hrel
             cases gk with
             | zero => exact absurd HA.out (by simp [laws_FnByClauses.l0])
             | succ k4 =>
              have H := HA.out
              clear HA
              simp only [laws_FnByClauses.l0] at H
              by_cases c199 : x207_4 < (t509.length : Int)
              ·rw [if_pos c199] at H
               have c199b0 : decide (x207_4 < (t509.length : Int)) = true := decide_eq_true c199
               clear c199
               by_cases c200 : 0 ≤ x207_4
               ·rw [if_pos c200] at H
                have c200b0 : decide (0 ≤ x207_4) = true := decide_eq_true c200
                clear c200
                by_cases c201 : x207_4 < (t509.length : Int)
                ·rw [if_pos c201] at H
                 have c201b0 : decide (x207_4 < (t509.length : Int)) = true := decide_eq_true c201
                 clear c201
                 by_cases c202 : ((rd_T75 t509 x207_4).f0) = t505
                 ·rw [if_pos c202] at H
                  have c202b0 : (((rd_T75 t509 x207_4).f0) == t505) = true := beq_iff_eq.mpr c202
                  have c202b1 : (((rd_T75 t509 x207_4).f0) != t505) = false := bne_eq_false_iff_eq.mpr c202
                  clear c202
                  exact absurd (Option.some.inj H).symm (by rw [hr_.out]; simp)
                 ·rw [if_neg c202] at H
                  have c202b0 : (((rd_T75 t509 x207_4).f0) == t505) = false := beq_eq_false_iff_ne.mpr c202
                  have c202b1 : (((rd_T75 t509 x207_4).f0) != t505) = true := bne_iff_ne.mpr c202
                  have H' := am_ H
                  clear H
                  have p550 : 0 ≤ (x207_4 : Int) := od_
                  have q550 : x207_4 < (t509.length : Int) := od_
                  obtain ⟨ad550, e550, hx550_0, hx550_1, hx550_2⟩ := at_T75 (Kd.R_reads' HO_205.out).2.2 x207_4 p550 q550
                  cases e550
                  replace p550 := eq_true p550
                  replace q550 := eq_true q550
                  go_wp2_with (first | ((with_reducible refine gate_dst (N := 36) rfl ?_); refine boxq_ (N := 36) (cs := #[.int .i64 0, .int .i64 0, .int .i64 0]) (t := 75) ?_; intro gb551 hg w203 hbox hb; replace HO_205 := am_ (Kd.R_below (Kd.R_elderB (rq_ HO_205.out) gb551 (Nat.le_of_eq hg.symm)) hb); replace HO_457001 := am_ (Kd.R_below (Kd.R_elderB (rq_ HO_457001.out) gb551 (Nat.le_of_eq hg.symm)) hb); replace HO_464001 := am_ (Kd.R_below (Kd.R_elderB (rq_ HO_464001.out) gb551 (Nat.le_of_eq hg.symm)) hb); replace HO_508001 := am_ (Kd.R_below (Kd.R_elderB (rq_ HO_508001.out) gb551 (Nat.le_of_eq hg.symm)) hb); replace HO_515001 := am_ (Kd.R_below (Kd.R_elderB (rq_ HO_515001.out) gb551 (Nat.le_of_eq hg.symm)) hb); replace HO_522001 := am_ (Kd.R_below (Kd.R_elderB (rq_ HO_522001.out) gb551 (Nat.le_of_eq hg.symm)) hb); replace HO_533001 := am_ (Kd.R_below (Kd.R_elderB (rq_ HO_533001.out) gb551 (Nat.le_of_eq hg.symm)) hb); replace HO_534001 := am_ (Kd.R_below (Kd.R_elderB (rq_ HO_534001.out) gb551 (Nat.le_of_eq hg.symm)) hb); replace HO_541001 := am_ (Kd.R_below (Kd.R_elderB (rq_ HO_541001.out) gb551 (Nat.le_of_eq hg.symm)) hb); replace HO_548001 := am_ (Kd.R_below (Kd.R_elderB (rq_ HO_548001.out) gb551 (Nat.le_of_eq hg.symm)) hb); have BK551 := am_ (hbox); have GW551 := gz_ hg; have GE551 := gz_ hg; replace HB := bs_ hb; have NB456_551 := nl_ BK456 hg; have NB551_456 := nr_ BK456 hg; replace BK456 := bb_ BK456 hb; have NB463_551 := nl_ BK463 hg; have NB551_463 := nr_ BK463 hg; replace BK463 := bb_ BK463 hb; have NB507_551 := nl_ BK507 hg; have NB551_507 := nr_ BK507 hg; replace BK507 := bb_ BK507 hb; have NB514_551 := nl_ BK514 hg; have NB551_514 := nr_ BK514 hg; replace BK514 := bb_ BK514 hb; have NB521_551 := nl_ BK521 hg; have NB551_521 := nr_ BK521 hg; replace BK521 := bb_ BK521 hb; have NB532_551 := nl_ BK532 hg; have NB551_532 := nr_ BK532 hg; replace BK532 := bb_ BK532 hb; have NB533_551 := nl_ BK533 hg; have NB551_533 := nr_ BK533 hg; replace BK533 := bb_ BK533 hb; have NB540_551 := nl_ BK540 hg; have NB551_540 := nr_ BK540 hg; replace BK540 := bb_ BK540 hb; have NB547_551 := nl_ BK547 hg; have NB551_547 := nr_ BK547 hg; replace BK547 := bb_ BK547 hb; clear hb hbox hg; have hnb204 := NB551_456.out; have hnc204 := NB456_551.out; have hnb205 := NB551_463.out; have hnc205 := NB463_551.out; have hnb206 := NB551_507.out; have hnc206 := NB507_551.out; have hnb207 := NB551_514.out; have hnc207 := NB514_551.out; have hnb208 := NB551_521.out; have hnc208 := NB521_551.out; have hnb209 := NB551_532.out; have hnc209 := NB532_551.out; have hnb210 := NB551_533.out; have hnc210 := NB533_551.out; have hnb211 := NB551_540.out; have hnc211 := NB540_551.out; have hnb212 := NB551_547.out; have hnc212 := NB547_551.out; have hcz213_0 := cq_ BK551.out 0 (.int .i64 0); have hcz213_1 := cq_ BK551.out 1 (.int .i64 0); have hcz213_2 := cq_ BK551.out 2 (.int .i64 0); have hfz213_0 := blk_frozen BK551.out 0; have hfz213_1 := blk_frozen BK551.out 1; have hfz213_2 := blk_frozen BK551.out 2))
                  go_roundg k4
                  case measure => have := HJ6.out; have := HJ25.out; have := HJ84.out; have := HK4.out; omega
                  case rel => exact ⟨(wrap64 (x207_4 + 1)), y30_, H', ⟨by have := HJ6.out; have := HJ25.out; have := HJ84.out; have := HK4.out; omega⟩, ⟨rq_ (Kd.R_mono (Kd.R_far (p := ⟨gb551, 2, none⟩) (Kd.R_far (p := ⟨gb551, 1, none⟩) (Kd.R_far (p := ⟨gb551, 0, none⟩) (Kd.R_mono HO_205.out (fun k_ hk => (⟨hk, hk.2⟩ : _ ∧ k_ ≠ gb551))) (fun _ hk => hk.2) (.int .i64 ((rd_T75 t509 x207_4).f0))) (fun _ hk => hk.2) (.int .i64 ((rd_T75 t509 x207_4).f1))) (fun _ hk => hk.2) (.int .i64 ((rd_T75 t509 x207_4).f2))) (fun _ hk => ⟨hk.1.1.1, ⟨hk.1.1.2.1, ⟨hk.1.1.2.2.1, ⟨hk.1.1.2.2.2.1, ⟨hk.1.1.2.2.2.2.1, ⟨hk.1.1.2.2.2.2.2.1, ⟨hk.1.1.2.2.2.2.2.2.1, hk.1.1.2.2.2.2.2.2.2⟩⟩⟩⟩⟩⟩⟩))⟩, ⟨rq_ (Kd.R_mono (Kd.R_far (p := ⟨gb551, 2, none⟩) (Kd.R_far (p := ⟨gb551, 1, none⟩) (Kd.R_far (p := ⟨gb551, 0, none⟩) (Kd.R_mono HO_457001.out (fun k_ hk => (⟨hk, hk.2⟩ : _ ∧ k_ ≠ gb551))) (fun _ hk => hk.2) (.int .i64 ((rd_T75 t509 x207_4).f0))) (fun _ hk => hk.2) (.int .i64 ((rd_T75 t509 x207_4).f1))) (fun _ hk => hk.2) (.int .i64 ((rd_T75 t509 x207_4).f2))) (fun _ hk => ⟨hk.1.1.1, ⟨hk.1.1.2.1, ⟨hk.1.1.2.2.1, ⟨hk.1.1.2.2.2.1, ⟨hk.1.1.2.2.2.2.1, ⟨hk.1.1.2.2.2.2.2.1, ⟨hk.1.1.2.2.2.2.2.2.1, ⟨hk.1.1.2.2.2.2.2.2.2.1, hk.1.1.2.2.2.2.2.2.2.2⟩⟩⟩⟩⟩⟩⟩⟩))⟩, ⟨rq_ (Kd.R_mono (Kd.R_far (p := ⟨gb551, 2, none⟩) (Kd.R_far (p := ⟨gb551, 1, none⟩) (Kd.R_far (p := ⟨gb551, 0, none⟩) (Kd.R_mono HO_464001.out (fun k_ hk => (⟨hk, hk.2⟩ : _ ∧ k_ ≠ gb551))) (fun _ hk => hk.2) (.int .i64 ((rd_T75 t509 x207_4).f0))) (fun _ hk => hk.2) (.int .i64 ((rd_T75 t509 x207_4).f1))) (fun _ hk => hk.2) (.int .i64 ((rd_T75 t509 x207_4).f2))) (fun _ hk => ⟨hk.1.1.1, ⟨hk.1.1.2.1, ⟨hk.1.1.2.2.1, ⟨hk.1.1.2.2.2.1, ⟨hk.1.1.2.2.2.2.1, ⟨hk.1.1.2.2.2.2.2.1, ⟨hk.1.1.2.2.2.2.2.2.1, ⟨hk.1.1.2.2.2.2.2.2.2.1, hk.1.1.2.2.2.2.2.2.2.2⟩⟩⟩⟩⟩⟩⟩⟩))⟩, ⟨rq_ (Kd.R_mono (Kd.R_far (p := ⟨gb551, 2, none⟩) (Kd.R_far (p := ⟨gb551, 1, none⟩) (Kd.R_far (p := ⟨gb551, 0, none⟩) (Kd.R_mono HO_508001.out (fun k_ hk => (⟨hk, hk.2⟩ : _ ∧ k_ ≠ gb551))) (fun _ hk => hk.2) (.int .i64 ((rd_T75 t509 x207_4).f0))) (fun _ hk => hk.2) (.int .i64 ((rd_T75 t509 x207_4).f1))) (fun _ hk => hk.2) (.int .i64 ((rd_T75 t509 x207_4).f2))) (fun _ hk => ⟨hk.1.1.1, ⟨hk.1.1.2.1, ⟨hk.1.1.2.2.1, ⟨hk.1.1.2.2.2.1, ⟨hk.1.1.2.2.2.2.1, ⟨hk.1.1.2.2.2.2.2.1, ⟨hk.1.1.2.2.2.2.2.2.1, ⟨hk.1.1.2.2.2.2.2.2.2.1, hk.1.1.2.2.2.2.2.2.2.2⟩⟩⟩⟩⟩⟩⟩⟩))⟩, ⟨rq_ (Kd.R_mono (Kd.R_far (p := ⟨gb551, 2, none⟩) (Kd.R_far (p := ⟨gb551, 1, none⟩) (Kd.R_far (p := ⟨gb551, 0, none⟩) (Kd.R_mono HO_515001.out (fun k_ hk => (⟨hk, hk.2⟩ : _ ∧ k_ ≠ gb551))) (fun _ hk => hk.2) (.int .i64 ((rd_T75 t509 x207_4).f0))) (fun _ hk => hk.2) (.int .i64 ((rd_T75 t509 x207_4).f1))) (fun _ hk => hk.2) (.int .i64 ((rd_T75 t509 x207_4).f2))) (fun _ hk => ⟨hk.1.1.1, ⟨hk.1.1.2.1, ⟨hk.1.1.2.2.1, ⟨hk.1.1.2.2.2.1, ⟨hk.1.1.2.2.2.2.1, ⟨hk.1.1.2.2.2.2.2.1, ⟨hk.1.1.2.2.2.2.2.2.1, hk.1.1.2.2.2.2.2.2.2⟩⟩⟩⟩⟩⟩⟩))⟩, ⟨rq_ (Kd.R_mono (Kd.R_far (p := ⟨gb551, 2, none⟩) (Kd.R_far (p := ⟨gb551, 1, none⟩) (Kd.R_far (p := ⟨gb551, 0, none⟩) (Kd.R_mono HO_522001.out (fun k_ hk => (⟨hk, hk.2⟩ : _ ∧ k_ ≠ gb551))) (fun _ hk => hk.2) (.int .i64 ((rd_T75 t509 x207_4).f0))) (fun _ hk => hk.2) (.int .i64 ((rd_T75 t509 x207_4).f1))) (fun _ hk => hk.2) (.int .i64 ((rd_T75 t509 x207_4).f2))) (fun _ hk => ⟨hk.1.1.1, ⟨hk.1.1.2.1, ⟨hk.1.1.2.2.1, ⟨hk.1.1.2.2.2.1, ⟨hk.1.1.2.2.2.2.1, ⟨hk.1.1.2.2.2.2.2.1, ⟨hk.1.1.2.2.2.2.2.2.1, ⟨hk.1.1.2.2.2.2.2.2.2.1, hk.1.1.2.2.2.2.2.2.2.2⟩⟩⟩⟩⟩⟩⟩⟩))⟩, ⟨rq_ (Kd.R_mono (Kd.R_far (p := ⟨gb551, 2, none⟩) (Kd.R_far (p := ⟨gb551, 1, none⟩) (Kd.R_far (p := ⟨gb551, 0, none⟩) (Kd.R_mono HO_533001.out (fun k_ hk => (⟨hk, hk.2⟩ : _ ∧ k_ ≠ gb551))) (fun _ hk => hk.2) (.int .i64 ((rd_T75 t509 x207_4).f0))) (fun _ hk => hk.2) (.int .i64 ((rd_T75 t509 x207_4).f1))) (fun _ hk => hk.2) (.int .i64 ((rd_T75 t509 x207_4).f2))) (fun _ hk => ⟨hk.1.1.1, ⟨hk.1.1.2.1, ⟨hk.1.1.2.2.1, ⟨hk.1.1.2.2.2.1, ⟨hk.1.1.2.2.2.2.1, ⟨hk.1.1.2.2.2.2.2.1, ⟨hk.1.1.2.2.2.2.2.2.1, ⟨hk.1.1.2.2.2.2.2.2.2.1, hk.1.1.2.2.2.2.2.2.2.2⟩⟩⟩⟩⟩⟩⟩⟩))⟩, ⟨rq_ (Kd.R_mono (Kd.R_far (p := ⟨gb551, 2, none⟩) (Kd.R_far (p := ⟨gb551, 1, none⟩) (Kd.R_far (p := ⟨gb551, 0, none⟩) (Kd.R_mono HO_534001.out (fun k_ hk => (⟨hk, hk.2⟩ : _ ∧ k_ ≠ gb551))) (fun _ hk => hk.2) (.int .i64 ((rd_T75 t509 x207_4).f0))) (fun _ hk => hk.2) (.int .i64 ((rd_T75 t509 x207_4).f1))) (fun _ hk => hk.2) (.int .i64 ((rd_T75 t509 x207_4).f2))) (fun _ hk => ⟨hk.1.1.1, ⟨hk.1.1.2.1, ⟨hk.1.1.2.2.1, ⟨hk.1.1.2.2.2.1, ⟨hk.1.1.2.2.2.2.1, ⟨hk.1.1.2.2.2.2.2.1, ⟨hk.1.1.2.2.2.2.2.2.1, ⟨hk.1.1.2.2.2.2.2.2.2.1, hk.1.1.2.2.2.2.2.2.2.2⟩⟩⟩⟩⟩⟩⟩⟩))⟩, ⟨rq_ (Kd.R_mono (Kd.R_far (p := ⟨gb551, 2, none⟩) (Kd.R_far (p := ⟨gb551, 1, none⟩) (Kd.R_far (p := ⟨gb551, 0, none⟩) (Kd.R_mono HO_541001.out (fun k_ hk => (⟨hk, hk.2⟩ : _ ∧ k_ ≠ gb551))) (fun _ hk => hk.2) (.int .i64 ((rd_T75 t509 x207_4).f0))) (fun _ hk => hk.2) (.int .i64 ((rd_T75 t509 x207_4).f1))) (fun _ hk => hk.2) (.int .i64 ((rd_T75 t509 x207_4).f2))) (fun _ hk => ⟨hk.1.1.1, ⟨hk.1.1.2.1, ⟨hk.1.1.2.2.1, ⟨hk.1.1.2.2.2.1, ⟨hk.1.1.2.2.2.2.1, ⟨hk.1.1.2.2.2.2.2.1, ⟨hk.1.1.2.2.2.2.2.2.1, ⟨hk.1.1.2.2.2.2.2.2.2.1, hk.1.1.2.2.2.2.2.2.2.2⟩⟩⟩⟩⟩⟩⟩⟩))⟩, ⟨rq_ (Kd.R_mono (Kd.R_far (p := ⟨gb551, 2, none⟩) (Kd.R_far (p := ⟨gb551, 1, none⟩) (Kd.R_far (p := ⟨gb551, 0, none⟩) (Kd.R_mono HO_548001.out (fun k_ hk => (⟨hk, hk.2⟩ : _ ∧ k_ ≠ gb551))) (fun _ hk => hk.2) (.int .i64 ((rd_T75 t509 x207_4).f0))) (fun _ hk => hk.2) (.int .i64 ((rd_T75 t509 x207_4).f1))) (fun _ hk => hk.2) (.int .i64 ((rd_T75 t509 x207_4).f2))) (fun _ hk => ⟨hk.1.1.1, ⟨hk.1.1.2.1, ⟨hk.1.1.2.2.1, ⟨hk.1.1.2.2.2.1, ⟨hk.1.1.2.2.2.2.1, ⟨hk.1.1.2.2.2.2.2.1, ⟨hk.1.1.2.2.2.2.2.2.1, ⟨hk.1.1.2.2.2.2.2.2.2.1, hk.1.1.2.2.2.2.2.2.2.2⟩⟩⟩⟩⟩⟩⟩⟩))⟩, ⟨by (with_reducible repeat (first | refine blk_drewN ?_ _ | refine blk_drew ?_ | refine blk_alloc ?_ _)); refine blk_far ?_ NB456_551.out _; (with_reducible repeat (first | refine blk_drewN ?_ _ | refine blk_drew ?_ | refine blk_alloc ?_ _)); refine blk_far ?_ NB456_551.out _; (with_reducible repeat (first | refine blk_drewN ?_ _ | refine blk_drew ?_ | refine blk_alloc ?_ _)); refine blk_far ?_ NB456_551.out _; (with_reducible repeat (first | refine blk_drewN ?_ _ | refine blk_drew ?_ | refine blk_alloc ?_ _)); exact BK456.out⟩, ⟨by (with_reducible repeat (first | refine blk_drewN ?_ _ | refine blk_drew ?_ | refine blk_alloc ?_ _)); refine blk_far ?_ NB463_551.out _; (with_reducible repeat (first | refine blk_drewN ?_ _ | refine blk_drew ?_ | refine blk_alloc ?_ _)); refine blk_far ?_ NB463_551.out _; (with_reducible repeat (first | refine blk_drewN ?_ _ | refine blk_drew ?_ | refine blk_alloc ?_ _)); refine blk_far ?_ NB463_551.out _; (with_reducible repeat (first | refine blk_drewN ?_ _ | refine blk_drew ?_ | refine blk_alloc ?_ _)); exact BK463.out⟩, ⟨by (with_reducible repeat (first | refine blk_drewN ?_ _ | refine blk_drew ?_ | refine blk_alloc ?_ _)); refine blk_far ?_ NB507_551.out _; (with_reducible repeat (first | refine blk_drewN ?_ _ | refine blk_drew ?_ | refine blk_alloc ?_ _)); refine blk_far ?_ NB507_551.out _; (with_reducible repeat (first | refine blk_drewN ?_ _ | refine blk_drew ?_ | refine blk_alloc ?_ _)); refine blk_far ?_ NB507_551.out _; (with_reducible repeat (first | refine blk_drewN ?_ _ | refine blk_drew ?_ | refine blk_alloc ?_ _)); exact BK507.out⟩, ⟨by (with_reducible repeat (first | refine blk_drewN ?_ _ | refine blk_drew ?_ | refine blk_alloc ?_ _)); refine blk_far ?_ NB514_551.out _; (with_reducible repeat (first | refine blk_drewN ?_ _ | refine blk_drew ?_ | refine blk_alloc ?_ _)); refine blk_far ?_ NB514_551.out _; (with_reducible repeat (first | refine blk_drewN ?_ _ | refine blk_drew ?_ | refine blk_alloc ?_ _)); refine blk_far ?_ NB514_551.out _; (with_reducible repeat (first | refine blk_drewN ?_ _ | refine blk_drew ?_ | refine blk_alloc ?_ _)); exact BK514.out⟩, ⟨by (with_reducible repeat (first | refine blk_drewN ?_ _ | refine blk_drew ?_ | refine blk_alloc ?_ _)); refine blk_far ?_ NB521_551.out _; (with_reducible repeat (first | refine blk_drewN ?_ _ | refine blk_drew ?_ | refine blk_alloc ?_ _)); refine blk_far ?_ NB521_551.out _; (with_reducible repeat (first | refine blk_drewN ?_ _ | refine blk_drew ?_ | refine blk_alloc ?_ _)); refine blk_far ?_ NB521_551.out _; (with_reducible repeat (first | refine blk_drewN ?_ _ | refine blk_drew ?_ | refine blk_alloc ?_ _)); exact BK521.out⟩, ⟨by (with_reducible repeat (first | refine blk_drewN ?_ _ | refine blk_drew ?_ | refine blk_alloc ?_ _)); refine blk_far ?_ NB532_551.out _; (with_reducible repeat (first | refine blk_drewN ?_ _ | refine blk_drew ?_ | refine blk_alloc ?_ _)); refine blk_far ?_ NB532_551.out _; (with_reducible repeat (first | refine blk_drewN ?_ _ | refine blk_drew ?_ | refine blk_alloc ?_ _)); refine blk_far ?_ NB532_551.out _; (with_reducible repeat (first | refine blk_drewN ?_ _ | refine blk_drew ?_ | refine blk_alloc ?_ _)); exact BK532.out⟩, ⟨by (with_reducible repeat (first | refine blk_drewN ?_ _ | refine blk_drew ?_ | refine blk_alloc ?_ _)); refine blk_far ?_ NB533_551.out _; (with_reducible repeat (first | refine blk_drewN ?_ _ | refine blk_drew ?_ | refine blk_alloc ?_ _)); refine blk_far ?_ NB533_551.out _; (with_reducible repeat (first | refine blk_drewN ?_ _ | refine blk_drew ?_ | refine blk_alloc ?_ _)); refine blk_far ?_ NB533_551.out _; (with_reducible repeat (first | refine blk_drewN ?_ _ | refine blk_drew ?_ | refine blk_alloc ?_ _)); exact BK533.out⟩, ⟨by (with_reducible repeat (first | refine blk_drewN ?_ _ | refine blk_drew ?_ | refine blk_alloc ?_ _)); refine blk_far ?_ NB540_551.out _; (with_reducible repeat (first | refine blk_drewN ?_ _ | refine blk_drew ?_ | refine blk_alloc ?_ _)); refine blk_far ?_ NB540_551.out _; (with_reducible repeat (first | refine blk_drewN ?_ _ | refine blk_drew ?_ | refine blk_alloc ?_ _)); refine blk_far ?_ NB540_551.out _; (with_reducible repeat (first | refine blk_drewN ?_ _ | refine blk_drew ?_ | refine blk_alloc ?_ _)); exact BK540.out⟩, ⟨by (with_reducible repeat (first | refine blk_drewN ?_ _ | refine blk_drew ?_ | refine blk_alloc ?_ _)); refine blk_far ?_ NB547_551.out _; (with_reducible repeat (first | refine blk_drewN ?_ _ | refine blk_drew ?_ | refine blk_alloc ?_ _)); refine blk_far ?_ NB547_551.out _; (with_reducible repeat (first | refine blk_drewN ?_ _ | refine blk_drew ?_ | refine blk_alloc ?_ _)); refine blk_far ?_ NB547_551.out _; (with_reducible repeat (first | refine blk_drewN ?_ _ | refine blk_drew ?_ | refine blk_alloc ?_ _)); exact BK547.out⟩, ⟨bq_⟩⟩
                ·rw [if_neg c201] at H
                 exact absurd H (by simp)
               ·rw [if_neg c200] at H
                exact absurd H (by simp)
              ·rw [if_neg c199] at H
               have c199b0 : decide (x207_4 < (t509.length : Int)) = false := decide_eq_false c199
               clear c199
               replace H := Option.bind_eq_some_iff.mp H
               obtain ⟨⟨t552, t553, t556, t557⟩, A2140, H⟩ := H
               replace H : ((impl_OnesOf.f k4 t508 t509 t512).bind fun bt559 => ((impl_OnesOf.f k4 t552 t553 t556).bind fun bt561 => ((impl_OnesOf.f k4 t500 t501 t504).bind fun bt563 => (if t557 = true then (if bt559.2 = true then (if bt561.2 = true then (if bt563.2 = true then (some ((wrap64 (bt559.1 + bt561.1)) == (wrap64 (2 * bt563.1)))) else (some false)) else (some false)) else (some false)) else (some false))))) = some r := H
               have A214 := am_ A2140
               clear A2140
               replace H := Option.bind_eq_some_iff.mp H
               obtain ⟨⟨t559, t560⟩, A2150, H⟩ := H
               replace H : ((impl_OnesOf.f k4 t552 t553 t556).bind fun bt561 => ((impl_OnesOf.f k4 t500 t501 t504).bind fun bt563 => (if t557 = true then (if t560 = true then (if bt561.2 = true then (if bt563.2 = true then (some ((wrap64 (t559 + bt561.1)) == (wrap64 (2 * bt563.1)))) else (some false)) else (some false)) else (some false)) else (some false)))) = some r := H
               have A215 := am_ A2150
               clear A2150
               replace H := Option.bind_eq_some_iff.mp H
               obtain ⟨⟨t561, t562⟩, A2160, H⟩ := H
               replace H : ((impl_OnesOf.f k4 t500 t501 t504).bind fun bt563 => (if t557 = true then (if t560 = true then (if t562 = true then (if bt563.2 = true then (some ((wrap64 (t559 + t561)) == (wrap64 (2 * bt563.1)))) else (some false)) else (some false)) else (some false)) else (some false))) = some r := H
               have A216 := am_ A2160
               clear A2160
               replace H := Option.bind_eq_some_iff.mp H
               obtain ⟨⟨t563, t564⟩, A2170, H⟩ := H
               replace H : (if t557 = true then (if t560 = true then (if t562 = true then (if t564 = true then (some ((wrap64 (t559 + t561)) == (wrap64 (2 * t563)))) else (some false)) else (some false)) else (some false)) else (some false)) = some r := H
               have A217 := am_ A2170
               clear A2170
               by_cases c218 : t557 = true
               ·subst c218
                have H1 : (if t560 = true then (if t562 = true then (if t564 = true then (some ((wrap64 (t559 + t561)) == (wrap64 (2 * t563)))) else (some false)) else (some false)) else (some false)) = some r := by rw [if_pos rfl] at H; exact H
                clear H
                have H := H1
                clear H1
                by_cases c219 : t560 = true
                ·subst c219
                 have H1 : (if t562 = true then (if t564 = true then (some ((wrap64 (t559 + t561)) == (wrap64 (2 * t563)))) else (some false)) else (some false)) = some r := by rw [if_pos rfl] at H; exact H
                 clear H
                 have H := H1
                 clear H1
                 by_cases c220 : t562 = true
                 ·subst c220
                  have H1 : (if t564 = true then (some ((wrap64 (t559 + t561)) == (wrap64 (2 * t563)))) else (some false)) = some r := by rw [if_pos rfl] at H; exact H
                  clear H
                  have H := H1
                  clear H1
                  by_cases c221 : t564 = true
                  ·subst c221
                   have H1 : (some ((wrap64 (t559 + t561)) == (wrap64 (2 * t563)))) = some r := by rw [if_pos rfl] at H; exact H
                   clear H
                   have H := H1
                   clear H1
                   obtain rfl := Option.some.inj H
                   have hnb222 := NB507_456.out
                   have hnc222 := NB456_507.out
                   have hnb223 := NB507_463.out
                   have hnc223 := NB463_507.out
                   have hnb224 := NB507_514.out
                   have hnc224 := NB514_507.out
                   have hnb225 := NB507_521.out
                   have hnc225 := NB521_507.out
                   have hnb226 := NB507_532.out
                   have hnc226 := NB532_507.out
                   have hnb227 := NB507_533.out
                   have hnc227 := NB533_507.out
                   have hnb228 := NB507_540.out
                   have hnc228 := NB540_507.out
                   have hnb229 := NB507_547.out
                   have hnc229 := NB547_507.out
                   have hcz230_0 := cq_ BK507.out 0 (.int .i64 t500)
                   have hcz230_1 := cq_ BK507.out 1 (.slice Ao91 t501.length co91)
                   have hcz230_2 := cq_ BK507.out 2 (.int .i64 t504)
                   have hfz230_0 := blk_frozen BK507.out 0
                   have hfz230_1 := blk_frozen BK507.out 1
                   have hfz230_2 := blk_frozen BK507.out 2
                   go_wp2_with (first | ((with_reducible refine gl_ 32 rfl ?_); refine goesM_ (some 221) Try.func32 #[.agg #[.int .i64 t500, .slice Ao91 t501.length co91, .int .i64 t504], .int .i64 t505, .bool (!t506)] ?_; (with_reducible refine (impl_FixVar.calls k4 t500 _ _ t501 t504 t505 (!t506) t552 t553 t556 true _ ?side1 ?side2 A214.out).mono ?_); (case side1 => exact cm_ (Kd.R_reads' HO_508001.out).2.2); (case side2 => exact (Kd.R_reads' HO_508001.out).2.1); rintro e w231 ⟨v554, rfl, ho0, hb⟩; refine ⟨_, rfl, ?_⟩; have HO555 := am_ (Kd.R_lower (Kd.R_new' (Kd.R_new' (Kd.R_new' (Kd.R_new' (Kd.R_new' (Kd.R_new' (Kd.R_new' (Kd.R_new' (Kd.R_new' (Kd.R_new' ho0 (Kd.R_lt (rq_ HO_205.out))) (Kd.R_lt (rq_ HO_457001.out))) (Kd.R_lt (rq_ HO_464001.out))) (Kd.R_lt (rq_ HO_508001.out))) (Kd.R_lt (rq_ HO_515001.out))) (Kd.R_lt (rq_ HO_522001.out))) (Kd.R_lt (rq_ HO_533001.out))) (Kd.R_lt (rq_ HO_534001.out))) (Kd.R_lt (rq_ HO_541001.out))) (Kd.R_lt (rq_ HO_548001.out))) (below_size (bq_))); replace HO_205 := am_ (Kd.R_elder' (rq_ HO_205.out) (Kd.R_base ho0) hb); replace HO_457001 := am_ (Kd.R_elder' (rq_ HO_457001.out) (Kd.R_base ho0) hb); replace HO_464001 := am_ (Kd.R_elder' (rq_ HO_464001.out) (Kd.R_base ho0) hb); replace HO_508001 := am_ (Kd.R_elder' (rq_ HO_508001.out) (Kd.R_base ho0) hb); replace HO_515001 := am_ (Kd.R_elder' (rq_ HO_515001.out) (Kd.R_base ho0) hb); replace HO_522001 := am_ (Kd.R_elder' (rq_ HO_522001.out) (Kd.R_base ho0) hb); replace HO_533001 := am_ (Kd.R_elder' (rq_ HO_533001.out) (Kd.R_base ho0) hb); replace HO_534001 := am_ (Kd.R_elder' (rq_ HO_534001.out) (Kd.R_base ho0) hb); replace HO_541001 := am_ (Kd.R_elder' (rq_ HO_541001.out) (Kd.R_base ho0) hb); replace HO_548001 := am_ (Kd.R_elder' (rq_ HO_548001.out) (Kd.R_base ho0) hb); replace BK456 := bb_ BK456 hb; replace BK463 := bb_ BK463 hb; replace BK507 := bb_ BK507 hb; replace BK514 := bb_ BK514 hb; replace BK521 := bb_ BK521 hb; replace BK532 := bb_ BK532 hb; replace BK533 := bb_ BK533 hb; replace BK540 := bb_ BK540 hb; replace BK547 := bb_ BK547 hb; replace HB := bs_ hb; (try clear hb); (try clear ho0)) | ((with_reducible refine gate_dst (N := 37) rfl ?_); refine boxq_ (N := 37) (cs := #[.int .i64 0, .slice none 0 0, .int .i64 0]) (t := 30) ?_; intro gb558 hg w232 hbox hb; replace HO_205 := am_ (Kd.R_below (rq_ HO_205.out) hb); replace HO_457001 := am_ (Kd.R_below (rq_ HO_457001.out) hb); replace HO_464001 := am_ (Kd.R_below (rq_ HO_464001.out) hb); replace HO_508001 := am_ (Kd.R_below (rq_ HO_508001.out) hb); replace HO_515001 := am_ (Kd.R_below (rq_ HO_515001.out) hb); replace HO_522001 := am_ (Kd.R_below (rq_ HO_522001.out) hb); replace HO_533001 := am_ (Kd.R_below (rq_ HO_533001.out) hb); replace HO_534001 := am_ (Kd.R_below (rq_ HO_534001.out) hb); replace HO_541001 := am_ (Kd.R_below (rq_ HO_541001.out) hb); replace HO_548001 := am_ (Kd.R_below (rq_ HO_548001.out) hb); replace HO555 := am_ (Kd.R_below (rq_ HO555.out) hb); have BK558 := am_ (hbox); have GW558 := gz_ hg; have GE558 := gz_ hg; replace HB := bs_ hb; have NB456_558 := nl_ BK456 hg; have NB558_456 := nr_ BK456 hg; replace BK456 := bb_ BK456 hb; have NB463_558 := nl_ BK463 hg; have NB558_463 := nr_ BK463 hg; replace BK463 := bb_ BK463 hb; have NB507_558 := nl_ BK507 hg; have NB558_507 := nr_ BK507 hg; replace BK507 := bb_ BK507 hb; have NB514_558 := nl_ BK514 hg; have NB558_514 := nr_ BK514 hg; replace BK514 := bb_ BK514 hb; have NB521_558 := nl_ BK521 hg; have NB558_521 := nr_ BK521 hg; replace BK521 := bb_ BK521 hb; have NB532_558 := nl_ BK532 hg; have NB558_532 := nr_ BK532 hg; replace BK532 := bb_ BK532 hb; have NB533_558 := nl_ BK533 hg; have NB558_533 := nr_ BK533 hg; replace BK533 := bb_ BK533 hb; have NB540_558 := nl_ BK540 hg; have NB558_540 := nr_ BK540 hg; replace BK540 := bb_ BK540 hb; have NB547_558 := nl_ BK547 hg; have NB558_547 := nr_ BK547 hg; replace BK547 := bb_ BK547 hb; clear hb hbox hg; have hnb233 := NB558_456.out; have hnc233 := NB456_558.out; have hnb234 := NB558_463.out; have hnc234 := NB463_558.out; have hnb235 := NB558_507.out; have hnc235 := NB507_558.out; have hnb236 := NB558_514.out; have hnc236 := NB514_558.out; have hnb237 := NB558_521.out; have hnc237 := NB521_558.out; have hnb238 := NB558_532.out; have hnc238 := NB532_558.out; have hnb239 := NB558_533.out; have hnc239 := NB533_558.out; have hnb240 := NB558_540.out; have hnc240 := NB540_558.out; have hnb241 := NB558_547.out; have hnc241 := NB547_558.out; have hcz242_0 := cq_ BK558.out 0 (.int .i64 0); have hcz242_1 := cq_ BK558.out 1 (.slice none 0 0); have hcz242_2 := cq_ BK558.out 2 (.int .i64 0); have hfz242_0 := blk_frozen BK558.out 0; have hfz242_1 := blk_frozen BK558.out 1; have hfz242_2 := blk_frozen BK558.out 2; obtain ⟨Ao243, co243, eo243⟩ := Kd.R_slice HO555.out; subst eo243; have hnb244 := NB514_456.out; have hnc244 := NB456_514.out; have hnb245 := NB514_463.out; have hnc245 := NB463_514.out; have hnb246 := NB514_521.out; have hnc246 := NB521_514.out; have hnb247 := NB514_532.out; have hnc247 := NB532_514.out; have hnb248 := NB514_533.out; have hnc248 := NB533_514.out; have hnb249 := NB514_540.out; have hnc249 := NB540_514.out; have hnb250 := NB514_547.out; have hnc250 := NB547_514.out; have hcz251_0 := cq_ BK514.out 0 (.int .i64 t508); have hcz251_1 := cq_ BK514.out 1 (.slice Ao98 t509.length co98); have hcz251_2 := cq_ BK514.out 2 (.int .i64 t512); have hfz251_0 := blk_frozen BK514.out 0; have hfz251_1 := blk_frozen BK514.out 1; have hfz251_2 := blk_frozen BK514.out 2) | ((with_reducible refine gl_ 15 rfl ?_); refine goesM_ (some 226) Try.func15 #[.agg #[.int .i64 t508, .slice Ao98 t509.length co98, .int .i64 t512]] ?_; (with_reducible refine (impl_OnesOf.calls k4 t508 _ _ t509 t512 t559 true _ ?side1 ?side2 A215.out).mono ?_); (case side1 => refine (Kd.R_reads' (e := 75) (base := w.heap.size) (ok := fun k_ => ((some k_ ≠ (.slice Ao13 t451.length co13 : Value).ownBlock ∧ (some k_ ≠ (.slice Ao18 t458.length co18 : Value).ownBlock ∧ (some k_ ≠ (.slice Ao91 t501.length co91 : Value).ownBlock ∧ (some k_ ≠ (.slice Ao107 t516.length co107 : Value).ownBlock ∧ (some k_ ≠ (.slice Ao118 t523.length co118 : Value).ownBlock ∧ (some k_ ≠ (.slice Ao125 t528.length co125 : Value).ownBlock ∧ (some k_ ≠ (.slice Ao136 t535.length co136 : Value).ownBlock ∧ some k_ ≠ (.slice Ao150 t542.length co150 : Value).ownBlock))))))) ∧ some k_ ≠ (.slice Ao243 t553.length co243 : Value).ownBlock)) (n := t509.length) (c := co98) ?_).2.2; exact (rg_ HO_515001 BK558)); (case side2 => exact (Kd.R_reads' HO_515001.out).2.1); rintro e w252 ⟨rfl, hb⟩; refine ⟨_, rfl, ?_⟩; replace HO_205 := am_ (Kd.R_below (rg_ HO_205 BK558) hb); replace HO_457001 := am_ (Kd.R_below (rg_ HO_457001 BK558) hb); replace HO_464001 := am_ (Kd.R_below (rg_ HO_464001 BK558) hb); replace HO_508001 := am_ (Kd.R_below (rg_ HO_508001 BK558) hb); replace HO_515001 := am_ (Kd.R_below (rg_ HO_515001 BK558) hb); replace HO_522001 := am_ (Kd.R_below (rg_ HO_522001 BK558) hb); replace HO_533001 := am_ (Kd.R_below (rg_ HO_533001 BK558) hb); replace HO_534001 := am_ (Kd.R_below (rg_ HO_534001 BK558) hb); replace HO_541001 := am_ (Kd.R_below (rg_ HO_541001 BK558) hb); replace HO_548001 := am_ (Kd.R_below (rg_ HO_548001 BK558) hb); replace HO555 := am_ (Kd.R_below (rg_ HO555 BK558) hb); replace BK456 := am_ (blk_below (bu_ BK456.out) hb); replace BK463 := am_ (blk_below (bu_ BK463.out) hb); replace BK507 := am_ (blk_below (bu_ BK507.out) hb); replace BK514 := am_ (blk_below (bu_ BK514.out) hb); replace BK521 := am_ (blk_below (bu_ BK521.out) hb); replace BK532 := am_ (blk_below (bu_ BK532.out) hb); replace BK533 := am_ (blk_below (bu_ BK533.out) hb); replace BK540 := am_ (blk_below (bu_ BK540.out) hb); replace BK547 := am_ (blk_below (bu_ BK547.out) hb); replace BK558 := am_ (blk_below (bu_ BK558.out) hb); replace HB := bs_ hb; (try clear hb); have hcz253_0 := cq_ BK558.out 0 (.int .i64 t552); have hcz253_1 := cq_ BK558.out 1 (.slice Ao243 t553.length co243); have hcz253_2 := cq_ BK558.out 2 (.int .i64 t556); have hfz253_0 := blk_frozen BK558.out 0; have hfz253_1 := blk_frozen BK558.out 1; have hfz253_2 := blk_frozen BK558.out 2) | ((with_reducible refine gl_ 15 rfl ?_); refine goesM_ (some 231) Try.func15 #[.agg #[.int .i64 t552, .slice Ao243 t553.length co243, .int .i64 t556]] ?_; (with_reducible refine (impl_OnesOf.calls k4 t552 _ _ t553 t556 t561 true _ ?side1 ?side2 A216.out).mono ?_); (case side1 => exact cm_ (Kd.R_reads' HO555.out).2.2); (case side2 => exact (Kd.R_reads' HO555.out).2.1); rintro e w254 ⟨rfl, hb⟩; refine ⟨_, rfl, ?_⟩; replace HO_205 := am_ (Kd.R_below (rq_ HO_205.out) hb); replace HO_457001 := am_ (Kd.R_below (rq_ HO_457001.out) hb); replace HO_464001 := am_ (Kd.R_below (rq_ HO_464001.out) hb); replace HO_508001 := am_ (Kd.R_below (rq_ HO_508001.out) hb); replace HO_515001 := am_ (Kd.R_below (rq_ HO_515001.out) hb); replace HO_522001 := am_ (Kd.R_below (rq_ HO_522001.out) hb); replace HO_533001 := am_ (Kd.R_below (rq_ HO_533001.out) hb); replace HO_534001 := am_ (Kd.R_below (rq_ HO_534001.out) hb); replace HO_541001 := am_ (Kd.R_below (rq_ HO_541001.out) hb); replace HO_548001 := am_ (Kd.R_below (rq_ HO_548001.out) hb); replace HO555 := am_ (Kd.R_below (rq_ HO555.out) hb); replace BK456 := bb_ BK456 hb; replace BK463 := bb_ BK463 hb; replace BK507 := bb_ BK507 hb; replace BK514 := bb_ BK514 hb; replace BK521 := bb_ BK521 hb; replace BK532 := bb_ BK532 hb; replace BK533 := bb_ BK533 hb; replace BK540 := bb_ BK540 hb; replace BK547 := bb_ BK547 hb; replace BK558 := bb_ BK558 hb; replace HB := bs_ hb; (try clear hb); have hcz255_0 := cq_ BK507.out 0 (.int .i64 t500); have hcz255_1 := cq_ BK507.out 1 (.slice Ao91 t501.length co91); have hcz255_2 := cq_ BK507.out 2 (.int .i64 t504); have hfz255_0 := blk_frozen BK507.out 0; have hfz255_1 := blk_frozen BK507.out 1; have hfz255_2 := blk_frozen BK507.out 2) | ((with_reducible refine gl_ 15 rfl ?_); refine goesM_ (some 236) Try.func15 #[.agg #[.int .i64 t500, .slice Ao91 t501.length co91, .int .i64 t504]] ?_; (with_reducible refine (impl_OnesOf.calls k4 t500 _ _ t501 t504 t563 true _ ?side1 ?side2 A217.out).mono ?_); (case side1 => exact cm_ (Kd.R_reads' HO_508001.out).2.2); (case side2 => exact (Kd.R_reads' HO_508001.out).2.1); rintro e w256 ⟨rfl, hb⟩; refine ⟨_, rfl, ?_⟩; replace HO_205 := am_ (Kd.R_below (rq_ HO_205.out) hb); replace HO_457001 := am_ (Kd.R_below (rq_ HO_457001.out) hb); replace HO_464001 := am_ (Kd.R_below (rq_ HO_464001.out) hb); replace HO_508001 := am_ (Kd.R_below (rq_ HO_508001.out) hb); replace HO_515001 := am_ (Kd.R_below (rq_ HO_515001.out) hb); replace HO_522001 := am_ (Kd.R_below (rq_ HO_522001.out) hb); replace HO_533001 := am_ (Kd.R_below (rq_ HO_533001.out) hb); replace HO_534001 := am_ (Kd.R_below (rq_ HO_534001.out) hb); replace HO_541001 := am_ (Kd.R_below (rq_ HO_541001.out) hb); replace HO_548001 := am_ (Kd.R_below (rq_ HO_548001.out) hb); replace HO555 := am_ (Kd.R_below (rq_ HO555.out) hb); replace BK456 := bb_ BK456 hb; replace BK463 := bb_ BK463 hb; replace BK507 := bb_ BK507 hb; replace BK514 := bb_ BK514 hb; replace BK521 := bb_ BK521 hb; replace BK532 := bb_ BK532 hb; replace BK533 := bb_ BK533 hb; replace BK540 := bb_ BK540 hb; replace BK547 := bb_ BK547 hb; replace BK558 := bb_ BK558 hb; replace HB := bs_ hb; (try clear hb)))
                   go_ret
                   exact ⟨by first | rfl | (simp [errW_none, errW_some] <;> rfl) | (simp [*, errW_none, errW_some] <;> rfl), bq_⟩
                  ·replace c221 := Bool.eq_false_iff.mpr c221
                   subst c221
                   have H1 : (some false) = some r := by rw [if_neg (show ¬ (false = true) by decide)] at H; exact H
                   clear H
                   have H := H1
                   clear H1
                   exact absurd (Option.some.inj H).symm (by rw [hr_.out]; simp)
                 ·replace c220 := Bool.eq_false_iff.mpr c220
                  subst c220
                  have H1 : (some false) = some r := by rw [if_neg (show ¬ (false = true) by decide)] at H; exact H
                  clear H
                  have H := H1
                  clear H1
                  exact absurd (Option.some.inj H).symm (by rw [hr_.out]; simp)
                ·replace c219 := Bool.eq_false_iff.mpr c219
                 subst c219
                 have H1 : (some false) = some r := by rw [if_neg (show ¬ (false = true) by decide)] at H; exact H
                 clear H
                 have H := H1
                 clear H1
                 exact absurd (Option.some.inj H).symm (by rw [hr_.out]; simp)
               ·replace c218 := Bool.eq_false_iff.mpr c218
                subst c218
                have H1 : (some false) = some r := by rw [if_neg (show ¬ (false = true) by decide)] at H; exact H
                clear H
                have H := H1
                clear H1
                exact absurd (Option.some.inj H).symm (by rw [hr_.out]; simp)
          ·replace c189 := Bool.eq_false_iff.mpr c189
           subst c189
           have H1 : (some true) = some r := by rw [if_neg (show ¬ (false = true) by decide)] at H; exact H
           clear H
           have H := H1
           clear H1
           as_aux_lemma =>
            obtain rfl := Option.some.inj H
            go_wp2
            go_ret
            exact ⟨by first | rfl | (simp [errW_none, errW_some] <;> rfl) | (simp [*, errW_none, errW_some] <;> rfl), bq_⟩
def laws_FnByClauses.Pure : Prop := ∀ (l0 : List Int) (l1 : List Int), l0.length ≤ maxLen → l0.length * 1 ≤ 140737488351232 → (∀ x ∈ l0, (Lit.int .u8 x).wf = true) → l1.length ≤ maxLen → l1.length * 1 ≤ 140737488351232 → (∀ x ∈ l1, (Lit.int .u8 x).wf = true) → ∃ k, laws_FnByClauses.f k l0 l1 = some true
theorem laws_FnByClauses.walk (P : laws_FnByClauses.Pure) (a0 : Option Addr) (len0 cap0 : Nat) (z0 : List Int) (a1 : Option Addr) (len1 cap1 : Nat) (z1 : List Int) (w : World) (w0 : (a0 = none ∧ len0 = 0 ∧ cap0 = 0 ∧ z0 = []) ∨ ∃ x, a0 = some x ∧ len0 ≤ cap0 ∧ cap0 ≤ maxLen ∧ z0.length = cap0 ∧ (∀ i, i < z0.length → w.cell? (x.add i) = some (.int .u8 (z0.getD i 0))) ∧ ∀ n ∈ z0, (Lit.int .u8 n).wf = true) (y0 : len0 * 1 ≤ 140737488351232) (w1 : (a1 = none ∧ len1 = 0 ∧ cap1 = 0 ∧ z1 = []) ∨ ∃ x, a1 = some x ∧ len1 ≤ cap1 ∧ cap1 ≤ maxLen ∧ z1.length = cap1 ∧ (∀ i, i < z1.length → w.cell? (x.add i) = some (.int .u8 (z1.getD i 0))) ∧ ∀ n ∈ z1, (Lit.int .u8 n).wf = true) (y1 : len1 * 1 ≤ 140737488351232) :
  Calls Try.prog 11 #[.slice a0 len0 cap0, .slice a1 len1 cap1] w fun e w' => e = .returned (.bool true) ∧ Below w.heap.size w w' := by
 obtain ⟨l0, rfl, hr0, hm0, hw0, hc0⟩ := ReadsInt.ofRowC w0
 obtain ⟨l1, rfl, hr1, hm1, hw1, hc1⟩ := ReadsInt.ofRowC w1
 obtain ⟨k, h⟩ := P l0 l1 hm0 y0 hw0 hm1 y1 hw1
 refine (laws_FnByClauses.calls k _ _ l0 _ _ l1 true w (Kd.C_of_reads (d := (0 : Int)) (h1 := fun _ => rfl) hr0) hc0 (Kd.C_of_reads (d := (0 : Int)) (h1 := fun _ => rfl) hr1) hc1 ⟨rfl⟩ h).mono ?_
 rintro e w' ⟨rfl, hd⟩
 exact ⟨rfl, hd⟩
end Go.Proofs.Ytpndhlcbfobelaa.PDX
