import Derived.Test.YtpndhlcbfobelaaPDXx0
import Derived.Test.YtpndhlcbfobelaaPDXx2
import Derived.Test.YtpndhlcbfobelaaPDXx3
namespace Go.Proofs.Ytpndhlcbfobelaa.PDX
open Go.RowKit Go.Proofs.YtpndhlcbfobelaaW.PrintWords Go.Proofs.YtpndhlcbfobelaaW.PrintLast Go.Proofs.YtpndhlcbfobelaaW.PrintMore
attribute [local go_sem] max2_int min2_int max_two min_two max_three min_three max_four min_four   -- for this text's walks alone
set_option linter.unusedVariables false
set_option linter.unusedSimpArgs false
mutual
def impl_GoodDiagram.j0 : Nat → Bool → Int → List (S75) → Int → Option (Bool)
 | 0, _, _, _, _ => none
 | k + 1, x25, x116000, x116001, x116002 => if x25 = true then (some false) else (impl_GoodDiagram.l0 k x116001 (x116001.length : Int) 0 x116000 x116001 x116002)
def impl_GoodDiagram.l0 : Nat → List (S75) → Int → Int → Int → List (S75) → Int → Option (Bool)
 | 0, _, _, _, _, _, _ => none
 | k + 1, x27, x28, x29, x116000, x116001, x116002 => if x29 < x28 then (if 0 ≤ x29 then (if x29 < (x27.length : Int) then ((impl_in.f ((rd_T75 x27 x29).f0) 1 x116000).bind fun t130 => (if t130 = true then ((impl_in.f ((rd_T75 x27 x29).f1) 0 (wrap64 (x29 + 1))).bind fun t131 => (if t131 = true then ((impl_in.f ((rd_T75 x27 x29).f2) 0 (wrap64 (x29 + 1))).bind fun t132 => (if t132 = true then (impl_GoodDiagram.l0 k x27 x28 (wrap64 (x29 + 1)) x116000 x116001 x116002) else (some false))) else (some false))) else (some false))) else (none)) else (none)) else ((impl_Diagram_table.f k x116000 x116001 x116002).bind fun t118 => ((impl_diagram.f k x116000 t118).bind fun bt121 => (if bt121.2.2 = x116002 then ((impl_Node_85.f k bt121.2.1 x116001).bind fun t127 => (some t127)) else (some false))))
end
def impl_GoodDiagram.f (k : Nat) (a0_0 : Int) (l0_1 : List (S75)) (a0_2 : Int) : Option (Bool) := (impl_in.f a0_0 0 6).bind fun t116 => (if t116 = true then (if (l0_1.length : Int) > 64 then (impl_GoodDiagram.j0 k true a0_0 l0_1 a0_2) else ((impl_in.f a0_2 0 (wrap64 ((l0_1.length : Int) + 1))).bind fun t117 => (impl_GoodDiagram.j0 k (!t117) a0_0 l0_1 a0_2))) else (impl_GoodDiagram.j0 k true a0_0 l0_1 a0_2))
set_option maxHeartbeats 8000000 in
set_option maxRecDepth 100000 in
theorem impl_GoodDiagram.calls (k : Nat) (a0_0 : Int) (A0_1 : Option Addr) (c0_1 : Nat) (l0_1 : List (S75)) (a0_2 : Int) (r : Bool) (w : World) (hr0_1 : Kd.C k75 w A0_1 l0_1.length l0_1) (hc0_1 : l0_1.length ≤ c0_1) (h : impl_GoodDiagram.f k a0_0 l0_1 a0_2 = some r) :
  Calls Try.prog 44 #[.agg #[.int .i64 a0_0, .slice A0_1 l0_1.length c0_1, .int .i64 a0_2]] w fun e w' => e = .returned (.bool r) ∧ Below w.heap.size w w' := by
 have hu30 := Try.underlying30
 have hu75 := Try.underlying75
 have HR0_1 := am_ hr0_1
 have HC0_1 := am_ hc0_1
 clear hr0_1 hc0_1
 have HB := am_ (Below.refl w.heap.size w)
 have H : ((impl_in.f a0_0 0 6).bind fun t116 => (if t116 = true then (if (l0_1.length : Int) > 64 then (impl_GoodDiagram.j0 k true a0_0 l0_1 a0_2) else ((impl_in.f a0_2 0 (wrap64 ((l0_1.length : Int) + 1))).bind fun t117 => (impl_GoodDiagram.j0 k (!t117) a0_0 l0_1 a0_2))) else (impl_GoodDiagram.j0 k true a0_0 l0_1 a0_2))) = some r := h
 clear h
 have HC2 := am_ H
 clear H
 go_enter Try.func44, Try.ntmps44
 go_upto_region 1 with (first | ((with_reducible refine gate_dst (N := 1) rfl ?_); (try (refine gate_guard (by rfl) ?_; dsimp only)); refine boxq_ (N := 1) (cs := #[.int .i64 a0_0, .slice A0_1 l0_1.length c0_1, .int .i64 a0_2]) (t := 30) ?_; intro gb115 hg w3 hbox hb; have BK115 := am_ (hbox); have GW115 := gz_ hg; have GE115 := gz_ hg; replace HB := bs_ hb; clear hb hbox hg))
 (try simp only [Act.put, List.setIfInBounds_toArray, List.set_cons_zero, List.set_cons_succ])
 go_cut [25] (fun v25 wc => ∃ (kq : Nat) (x25_1 : Bool), v25 = .bool x25_1 ∧ Aside0 (impl_GoodDiagram.j0 kq x25_1 a0_0 l0_1 a0_2 = some r) ∧ Aside0 (kq ≤ k) ∧ Aside0 (wc.heap[gb115]? = some (.cells #[.int .i64 a0_0, (.slice A0_1 l0_1.length c0_1), .int .i64 a0_2] 30 (0, 0))) ∧ Aside0 (Below w.heap.size w wc))
 case first =>
  have H := HC2.out
  clear HC2
  replace H := Option.bind_eq_some_iff.mp H
  obtain ⟨t116, A40, H⟩ := H
  replace H : (if t116 = true then (if (l0_1.length : Int) > 64 then (impl_GoodDiagram.j0 k true a0_0 l0_1 a0_2) else ((impl_in.f a0_2 0 (wrap64 ((l0_1.length : Int) + 1))).bind fun t117 => (impl_GoodDiagram.j0 k (!t117) a0_0 l0_1 a0_2))) else (impl_GoodDiagram.j0 k true a0_0 l0_1 a0_2)) = some r := H
  have A4 := am_ A40
  clear A40
  by_cases c5 : t116 = true
  ·subst c5
   have H1 : (if (l0_1.length : Int) > 64 then (impl_GoodDiagram.j0 k true a0_0 l0_1 a0_2) else ((impl_in.f a0_2 0 (wrap64 ((l0_1.length : Int) + 1))).bind fun t117 => (impl_GoodDiagram.j0 k (!t117) a0_0 l0_1 a0_2))) = some r := by rw [if_pos rfl] at H; exact H
   clear H
   have H := H1
   clear H1
   by_cases c6 : (l0_1.length : Int) > 64
   ·rw [if_pos c6] at H
    have c6b0 : decide (64 < (l0_1.length : Int)) = true := decide_eq_true c6
    have c6b1 : decide (64 < l0_1.length) = true := decide_eq_true (by omega)
    clear c6
    (first | rw [c6b0] | (simp only [i64_w, i32_w]; rw [c6b0]) | skip)
    have H' := am_ H
    clear H
    have hcz7_0 := cq_ BK115.out 0 (.int .i64 a0_0)
    have hcz7_1 := cq_ BK115.out 1 (.slice A0_1 l0_1.length c0_1)
    have hcz7_2 := cq_ BK115.out 2 (.int .i64 a0_2)
    have hfz7_0 := blk_frozen BK115.out 0
    have hfz7_1 := blk_frozen BK115.out 1
    have hfz7_2 := blk_frozen BK115.out 2
    go_wp2_with (first | ((with_reducible refine gl_ 68 rfl ?_); refine goesM_ (some 8) Try.func68 #[.int .i64 a0_0, .int .i64 0, .int .i64 6] ?_; (with_reducible refine (impl_in.calls a0_0 0 6 true _ A4.out).mono ?_); rintro e w' ⟨rfl, ⟨nd, rfl⟩⟩; refine ⟨_, rfl, ?_⟩))
    go_meet
    case rel => exact ⟨_, (true), y30_, H', ⟨by first | omega | exact Nat.le_refl _⟩, ⟨bk_ BK115.out⟩, ⟨bq_⟩⟩
   ·rw [if_neg c6] at H
    have c6b0 : decide (64 < (l0_1.length : Int)) = false := decide_eq_false c6
    have c6b1 : decide (64 < l0_1.length) = false := decide_eq_false (by omega)
    clear c6
    (first | rw [c6b0] | (simp only [i64_w, i32_w]; rw [c6b0]) | skip)
    replace H := Option.bind_eq_some_iff.mp H
    obtain ⟨t117, A80, H⟩ := H
    replace H : (impl_GoodDiagram.j0 k (!t117) a0_0 l0_1 a0_2) = some r := H
    have A8 := am_ A80
    clear A80
    have H' := am_ H
    clear H
    have hcz9_0 := cq_ BK115.out 0 (.int .i64 a0_0)
    have hcz9_1 := cq_ BK115.out 1 (.slice A0_1 l0_1.length c0_1)
    have hcz9_2 := cq_ BK115.out 2 (.int .i64 a0_2)
    have hfz9_0 := blk_frozen BK115.out 0
    have hfz9_1 := blk_frozen BK115.out 1
    have hfz9_2 := blk_frozen BK115.out 2
    go_wp2_with (first | ((with_reducible refine gl_ 68 rfl ?_); refine goesM_ (some 8) Try.func68 #[.int .i64 a0_0, .int .i64 0, .int .i64 6] ?_; (with_reducible refine (impl_in.calls a0_0 0 6 true _ A4.out).mono ?_); rintro e w' ⟨rfl, ⟨nd, rfl⟩⟩; refine ⟨_, rfl, ?_⟩) | (go_at_call 68; (with_reducible refine (impl_in.calls a0_2 0 (wrap64 ((l0_1.length : Int) + 1)) t117 _ A8.out).mono ?_); rintro e w' ⟨rfl, ⟨nd, rfl⟩⟩))
    go_meet
    case rel => exact ⟨_, (!t117), y30_, H', ⟨by first | omega | exact Nat.le_refl _⟩, ⟨bk_ BK115.out⟩, ⟨bq_⟩⟩
  ·replace c5 := Bool.eq_false_iff.mpr c5
   subst c5
   have H1 : (impl_GoodDiagram.j0 k true a0_0 l0_1 a0_2) = some r := by rw [if_neg (show ¬ (false = true) by decide)] at H; exact H
   clear H
   have H := H1
   clear H1
   have H' := am_ H
   clear H
   have hcz10_0 := cq_ BK115.out 0 (.int .i64 a0_0)
   have hcz10_1 := cq_ BK115.out 1 (.slice A0_1 l0_1.length c0_1)
   have hcz10_2 := cq_ BK115.out 2 (.int .i64 a0_2)
   have hfz10_0 := blk_frozen BK115.out 0
   have hfz10_1 := blk_frozen BK115.out 1
   have hfz10_2 := blk_frozen BK115.out 2
   go_wp2_with (first | ((with_reducible refine gl_ 68 rfl ?_); refine goesM_ (some 8) Try.func68 #[.int .i64 a0_0, .int .i64 0, .int .i64 6] ?_; (with_reducible refine (impl_in.calls a0_0 0 6 false _ A4.out).mono ?_); rintro e w' ⟨rfl, ⟨nd, rfl⟩⟩; refine ⟨_, rfl, ?_⟩))
   go_meet
   case rel => exact ⟨_, (true), y30_, H', ⟨by first | omega | exact Nat.le_refl _⟩, ⟨bk_ BK115.out⟩, ⟨bq_⟩⟩
 case rest =>
  clear HC2
  try clear p2
  try clear c4
  try clear c5
  try clear c6
  try clear c6b0
  try clear c6b1
  try clear p6
  try clear hcz10_0
  try clear hcz10_1
  try clear hcz10_2
  try clear hcz7_0
  try clear hcz7_1
  try clear hcz7_2
  try clear hcz9_0
  try clear hcz9_1
  try clear hcz9_2
  try clear hfz10_0
  try clear hfz10_1
  try clear hfz10_2
  try clear hfz7_0
  try clear hfz7_1
  try clear hfz7_2
  try clear hfz9_0
  try clear hfz9_1
  try clear hfz9_2
  obtain ⟨kq, x25_1, rfl, HA, HJ1, BK115, HB⟩ := hcut
  cases kq with
  | zero => exact absurd HA.out (by simp [impl_GoodDiagram.j0])
  | succ kj1 =>
   have H := HA.out
   clear HA
   simp only [impl_GoodDiagram.j0] at H
   by_cases c11 : x25_1 = true
   ·subst c11
    have H1 : (some false) = some r := by rw [if_pos rfl] at H; exact H
    clear H
    have H := H1
    clear H1
    obtain rfl := Option.some.inj H
    go_wp2
    go_ret
    exact ⟨by first | rfl | (simp [errW_none, errW_some] <;> rfl) | (simp [*, errW_none, errW_some] <;> rfl), bq_⟩
   ·replace c11 := Bool.eq_false_iff.mpr c11
    subst c11
    have H1 : (impl_GoodDiagram.l0 kj1 l0_1 (l0_1.length : Int) 0 a0_0 l0_1 a0_2) = some r := by rw [if_neg (show ¬ (false = true) by decide)] at H; exact H
    clear H
    have H := H1
    clear H1
    have H' := am_ H
    clear H
    have hcz12_0 := cq_ BK115.out 0 (.int .i64 a0_0)
    have hcz12_1 := cq_ BK115.out 1 (.slice A0_1 l0_1.length c0_1)
    have hcz12_2 := cq_ BK115.out 2 (.int .i64 a0_2)
    have hfz12_0 := blk_frozen BK115.out 0
    have hfz12_1 := blk_frozen BK115.out 1
    have hfz12_2 := blk_frozen BK115.out 2
    go_wp2
    go_loopg [29] kj1 (fun kq v29 w' => ∃ (x29_2 : Int), v29 = .int .i64 x29_2 ∧ Aside0 (impl_GoodDiagram.l0 kq l0_1 (l0_1.length : Int) x29_2 a0_0 l0_1 a0_2 = some r) ∧ Aside0 (kq ≤ kj1) ∧ Aside0 (w'.heap[gb115]? = some (.cells #[.int .i64 a0_0, (.slice A0_1 l0_1.length c0_1), .int .i64 a0_2] 30 (0, 0))) ∧ Aside0 (Below w.heap.size w w'))
    case atStart => exact ⟨(0), y30_, H', ⟨Nat.le_refl _⟩, ⟨bk_ BK115.out⟩, ⟨bq_⟩⟩
    case round =>
     clear H'
     try clear c1
     try clear p2
     try clear c4
     try clear c5
     try clear c6
     try clear c6b0
     try clear c6b1
     try clear p6
     try clear c11
     try clear hcz10_0
     try clear hcz10_1
     try clear hcz10_2
     try clear hcz12_0
     try clear hcz12_1
     try clear hcz12_2
     try clear hcz7_0
     try clear hcz7_1
     try clear hcz7_2
     try clear hcz9_0
     try clear hcz9_1
     try clear hcz9_2
     try clear hfz10_0
     try clear hfz10_1
     try clear hfz10_2
     try clear hfz12_0
     try clear hfz12_1
     try clear hfz12_2
     try clear hfz7_0
     try clear hfz7_1
     try clear hfz7_2
     try clear hfz9_0
     try clear hfz9_1
     try clear hfz9_2
     try clear p2
     try clear p6
     obtain ⟨x29_2, rfl, HA, HK2, BK115, HB⟩ := hrel
     cases gk with
     | zero => exact absurd HA.out (by simp [impl_GoodDiagram.l0])
     | succ k2 =>
      have H := HA.out
      clear HA
      simp only [impl_GoodDiagram.l0] at H
      by_cases c13 : x29_2 < (l0_1.length : Int)
      ·rw [if_pos c13] at H
       have c13b0 : decide (x29_2 < (l0_1.length : Int)) = true := decide_eq_true c13
       clear c13
       by_cases c14 : 0 ≤ x29_2
       ·rw [if_pos c14] at H
        have c14b0 : decide (0 ≤ x29_2) = true := decide_eq_true c14
        clear c14
        by_cases c15 : x29_2 < (l0_1.length : Int)
        ·rw [if_pos c15] at H
         have c15b0 : decide (x29_2 < (l0_1.length : Int)) = true := decide_eq_true c15
         clear c15
         replace H := Option.bind_eq_some_iff.mp H
         obtain ⟨t130, A160, H⟩ := H
         replace H : (if t130 = true then ((impl_in.f ((rd_T75 l0_1 x29_2).f1) 0 (wrap64 (x29_2 + 1))).bind fun t131 => (if t131 = true then ((impl_in.f ((rd_T75 l0_1 x29_2).f2) 0 (wrap64 (x29_2 + 1))).bind fun t132 => (if t132 = true then (impl_GoodDiagram.l0 k2 l0_1 (l0_1.length : Int) (wrap64 (x29_2 + 1)) a0_0 l0_1 a0_2) else (some false))) else (some false))) else (some false)) = some r := H
         have A16 := am_ A160
         clear A160
         by_cases c17 : t130 = true
         ·subst c17
          have H1 : ((impl_in.f ((rd_T75 l0_1 x29_2).f1) 0 (wrap64 (x29_2 + 1))).bind fun t131 => (if t131 = true then ((impl_in.f ((rd_T75 l0_1 x29_2).f2) 0 (wrap64 (x29_2 + 1))).bind fun t132 => (if t132 = true then (impl_GoodDiagram.l0 k2 l0_1 (l0_1.length : Int) (wrap64 (x29_2 + 1)) a0_0 l0_1 a0_2) else (some false))) else (some false))) = some r := by rw [if_pos rfl] at H; exact H
          clear H
          have H := H1
          clear H1
          replace H := Option.bind_eq_some_iff.mp H
          obtain ⟨t131, A180, H⟩ := H
          replace H : (if t131 = true then ((impl_in.f ((rd_T75 l0_1 x29_2).f2) 0 (wrap64 (x29_2 + 1))).bind fun t132 => (if t132 = true then (impl_GoodDiagram.l0 k2 l0_1 (l0_1.length : Int) (wrap64 (x29_2 + 1)) a0_0 l0_1 a0_2) else (some false))) else (some false)) = some r := H
          have A18 := am_ A180
          clear A180
          by_cases c19 : t131 = true
          ·subst c19
           have H1 : ((impl_in.f ((rd_T75 l0_1 x29_2).f2) 0 (wrap64 (x29_2 + 1))).bind fun t132 => (if t132 = true then (impl_GoodDiagram.l0 k2 l0_1 (l0_1.length : Int) (wrap64 (x29_2 + 1)) a0_0 l0_1 a0_2) else (some false))) = some r := by rw [if_pos rfl] at H; exact H
           clear H
           have H := H1
           clear H1
           replace H := Option.bind_eq_some_iff.mp H
           obtain ⟨t132, A200, H⟩ := H
           replace H : (if t132 = true then (impl_GoodDiagram.l0 k2 l0_1 (l0_1.length : Int) (wrap64 (x29_2 + 1)) a0_0 l0_1 a0_2) else (some false)) = some r := H
           have A20 := am_ A200
           clear A200
           by_cases c21 : t132 = true
           ·subst c21
            have H1 : (impl_GoodDiagram.l0 k2 l0_1 (l0_1.length : Int) (wrap64 (x29_2 + 1)) a0_0 l0_1 a0_2) = some r := by rw [if_pos rfl] at H; exact H
            clear H
            have H := H1
            clear H1
            have H' := am_ H
            clear H
            have p128 : 0 ≤ (x29_2 : Int) := od_
            have q128 : x29_2 < (l0_1.length : Int) := od_
            obtain ⟨ad128, e128, hx128_0, hx128_1, hx128_2⟩ := at_T75 HR0_1.out x29_2 p128 q128
            cases e128
            replace hx128_0 := (HB.out.cell (World.block_lt_of_cell? w _ hx128_0)).trans hx128_0
            replace hx128_1 := (HB.out.cell (World.block_lt_of_cell? w _ hx128_1)).trans hx128_1
            replace hx128_2 := (HB.out.cell (World.block_lt_of_cell? w _ hx128_2)).trans hx128_2
            replace p128 := eq_true p128
            replace q128 := eq_true q128
            go_wp2_with (first | ((with_reducible refine gate_dst (N := 4) rfl ?_); (try (refine gate_guard (by rfl) ?_; dsimp only)); refine boxq_ (N := 4) (cs := #[.int .i64 0, .int .i64 0, .int .i64 0]) (t := 75) ?_; intro gb129 hg w22 hbox hb; have BK129 := am_ (hbox); have GW129 := gz_ hg; have GE129 := gz_ hg; replace HB := bs_ hb; have NB115_129 := nl_ BK115 hg; have NB129_115 := nr_ BK115 hg; replace BK115 := bb_ BK115 hb; clear hb hbox hg; have hnb23 := NB129_115.out; have hnc23 := NB115_129.out; have hcz24_0 := cq_ BK129.out 0 (.int .i64 0); have hcz24_1 := cq_ BK129.out 1 (.int .i64 0); have hcz24_2 := cq_ BK129.out 2 (.int .i64 0); have hfz24_0 := blk_frozen BK129.out 0; have hfz24_1 := blk_frozen BK129.out 1; have hfz24_2 := blk_frozen BK129.out 2; have hcz25_0 := cq_ BK115.out 0 (.int .i64 a0_0); have hcz25_1 := cq_ BK115.out 1 (.slice (some ad128) l0_1.length c0_1); have hcz25_2 := cq_ BK115.out 2 (.int .i64 a0_2); have hfz25_0 := blk_frozen BK115.out 0; have hfz25_1 := blk_frozen BK115.out 1; have hfz25_2 := blk_frozen BK115.out 2) | ((with_reducible refine gl_ 68 rfl ?_); refine goesM_ (some 38) Try.func68 #[.int .i64 ((rd_T75 l0_1 x29_2).f0), .int .i64 1, .int .i64 a0_0] ?_; (with_reducible refine (impl_in.calls ((rd_T75 l0_1 x29_2).f0) 1 a0_0 true _ A16.out).mono ?_); rintro e w' ⟨rfl, ⟨nd, rfl⟩⟩; refine ⟨_, rfl, ?_⟩) | (go_at_call 68; (with_reducible refine (impl_in.calls ((rd_T75 l0_1 x29_2).f1) 0 (wrap64 (x29_2 + 1)) true _ A18.out).mono ?_); rintro e w' ⟨rfl, ⟨nd, rfl⟩⟩) | (go_at_call 68; (with_reducible refine (impl_in.calls ((rd_T75 l0_1 x29_2).f2) 0 (wrap64 (x29_2 + 1)) true _ A20.out).mono ?_); rintro e w' ⟨rfl, ⟨nd, rfl⟩⟩))
            go_roundg k2
            case measure => have := HJ1.out; have := HK2.out; omega
            case rel => exact ⟨(wrap64 (x29_2 + 1)), y30_, H', ⟨by have := HJ1.out; have := HK2.out; omega⟩, ⟨by (with_reducible repeat (first | refine blk_drewN ?_ _ | refine blk_drew ?_ | refine blk_alloc ?_ _)); refine blk_far ?_ NB115_129.out _; (with_reducible repeat (first | refine blk_drewN ?_ _ | refine blk_drew ?_ | refine blk_alloc ?_ _)); refine blk_far ?_ NB115_129.out _; (with_reducible repeat (first | refine blk_drewN ?_ _ | refine blk_drew ?_ | refine blk_alloc ?_ _)); refine blk_far ?_ NB115_129.out _; (with_reducible repeat (first | refine blk_drewN ?_ _ | refine blk_drew ?_ | refine blk_alloc ?_ _)); exact BK115.out⟩, ⟨bq_⟩⟩
           ·replace c21 := Bool.eq_false_iff.mpr c21
            subst c21
            have H1 : (some false) = some r := by rw [if_neg (show ¬ (false = true) by decide)] at H; exact H
            clear H
            have H := H1
            clear H1
            obtain rfl := Option.some.inj H
            have p128 : 0 ≤ (x29_2 : Int) := od_
            have q128 : x29_2 < (l0_1.length : Int) := od_
            obtain ⟨ad128, e128, hx128_0, hx128_1, hx128_2⟩ := at_T75 HR0_1.out x29_2 p128 q128
            cases e128
            replace hx128_0 := (HB.out.cell (World.block_lt_of_cell? w _ hx128_0)).trans hx128_0
            replace hx128_1 := (HB.out.cell (World.block_lt_of_cell? w _ hx128_1)).trans hx128_1
            replace hx128_2 := (HB.out.cell (World.block_lt_of_cell? w _ hx128_2)).trans hx128_2
            replace p128 := eq_true p128
            replace q128 := eq_true q128
            go_wp2_with (first | ((with_reducible refine gate_dst (N := 4) rfl ?_); (try (refine gate_guard (by rfl) ?_; dsimp only)); refine boxq_ (N := 4) (cs := #[.int .i64 0, .int .i64 0, .int .i64 0]) (t := 75) ?_; intro gb129 hg w26 hbox hb; have BK129 := am_ (hbox); have GW129 := gz_ hg; have GE129 := gz_ hg; replace HB := bs_ hb; have NB115_129 := nl_ BK115 hg; have NB129_115 := nr_ BK115 hg; replace BK115 := bb_ BK115 hb; clear hb hbox hg; have hnb27 := NB129_115.out; have hnc27 := NB115_129.out; have hcz28_0 := cq_ BK129.out 0 (.int .i64 0); have hcz28_1 := cq_ BK129.out 1 (.int .i64 0); have hcz28_2 := cq_ BK129.out 2 (.int .i64 0); have hfz28_0 := blk_frozen BK129.out 0; have hfz28_1 := blk_frozen BK129.out 1; have hfz28_2 := blk_frozen BK129.out 2; have hcz29_0 := cq_ BK115.out 0 (.int .i64 a0_0); have hcz29_1 := cq_ BK115.out 1 (.slice (some ad128) l0_1.length c0_1); have hcz29_2 := cq_ BK115.out 2 (.int .i64 a0_2); have hfz29_0 := blk_frozen BK115.out 0; have hfz29_1 := blk_frozen BK115.out 1; have hfz29_2 := blk_frozen BK115.out 2) | ((with_reducible refine gl_ 68 rfl ?_); refine goesM_ (some 38) Try.func68 #[.int .i64 ((rd_T75 l0_1 x29_2).f0), .int .i64 1, .int .i64 a0_0] ?_; (with_reducible refine (impl_in.calls ((rd_T75 l0_1 x29_2).f0) 1 a0_0 true _ A16.out).mono ?_); rintro e w' ⟨rfl, ⟨nd, rfl⟩⟩; refine ⟨_, rfl, ?_⟩) | (go_at_call 68; (with_reducible refine (impl_in.calls ((rd_T75 l0_1 x29_2).f1) 0 (wrap64 (x29_2 + 1)) true _ A18.out).mono ?_); rintro e w' ⟨rfl, ⟨nd, rfl⟩⟩) | (go_at_call 68; (with_reducible refine (impl_in.calls ((rd_T75 l0_1 x29_2).f2) 0 (wrap64 (x29_2 + 1)) false _ A20.out).mono ?_); rintro e w' ⟨rfl, ⟨nd, rfl⟩⟩))
            go_ret
            exact ⟨by first | rfl | (simp [errW_none, errW_some] <;> rfl) | (simp [*, errW_none, errW_some] <;> rfl), bq_⟩
          ·replace c19 := Bool.eq_false_iff.mpr c19
           subst c19
           have H1 : (some false) = some r := by rw [if_neg (show ¬ (false = true) by decide)] at H; exact H
           clear H
           have H := H1
           clear H1
           obtain rfl := Option.some.inj H
           have p128 : 0 ≤ (x29_2 : Int) := od_
           have q128 : x29_2 < (l0_1.length : Int) := od_
           obtain ⟨ad128, e128, hx128_0, hx128_1, hx128_2⟩ := at_T75 HR0_1.out x29_2 p128 q128
           cases e128
           replace hx128_0 := (HB.out.cell (World.block_lt_of_cell? w _ hx128_0)).trans hx128_0
           replace hx128_1 := (HB.out.cell (World.block_lt_of_cell? w _ hx128_1)).trans hx128_1
           replace hx128_2 := (HB.out.cell (World.block_lt_of_cell? w _ hx128_2)).trans hx128_2
           replace p128 := eq_true p128
           replace q128 := eq_true q128
           go_wp2_with (first | ((with_reducible refine gate_dst (N := 4) rfl ?_); (try (refine gate_guard (by rfl) ?_; dsimp only)); refine boxq_ (N := 4) (cs := #[.int .i64 0, .int .i64 0, .int .i64 0]) (t := 75) ?_; intro gb129 hg w30 hbox hb; have BK129 := am_ (hbox); have GW129 := gz_ hg; have GE129 := gz_ hg; replace HB := bs_ hb; have NB115_129 := nl_ BK115 hg; have NB129_115 := nr_ BK115 hg; replace BK115 := bb_ BK115 hb; clear hb hbox hg; have hnb31 := NB129_115.out; have hnc31 := NB115_129.out; have hcz32_0 := cq_ BK129.out 0 (.int .i64 0); have hcz32_1 := cq_ BK129.out 1 (.int .i64 0); have hcz32_2 := cq_ BK129.out 2 (.int .i64 0); have hfz32_0 := blk_frozen BK129.out 0; have hfz32_1 := blk_frozen BK129.out 1; have hfz32_2 := blk_frozen BK129.out 2; have hcz33_0 := cq_ BK115.out 0 (.int .i64 a0_0); have hcz33_1 := cq_ BK115.out 1 (.slice (some ad128) l0_1.length c0_1); have hcz33_2 := cq_ BK115.out 2 (.int .i64 a0_2); have hfz33_0 := blk_frozen BK115.out 0; have hfz33_1 := blk_frozen BK115.out 1; have hfz33_2 := blk_frozen BK115.out 2) | ((with_reducible refine gl_ 68 rfl ?_); refine goesM_ (some 38) Try.func68 #[.int .i64 ((rd_T75 l0_1 x29_2).f0), .int .i64 1, .int .i64 a0_0] ?_; (with_reducible refine (impl_in.calls ((rd_T75 l0_1 x29_2).f0) 1 a0_0 true _ A16.out).mono ?_); rintro e w' ⟨rfl, ⟨nd, rfl⟩⟩; refine ⟨_, rfl, ?_⟩) | (go_at_call 68; (with_reducible refine (impl_in.calls ((rd_T75 l0_1 x29_2).f1) 0 (wrap64 (x29_2 + 1)) false _ A18.out).mono ?_); rintro e w' ⟨rfl, ⟨nd, rfl⟩⟩))
           go_ret
           exact ⟨by first | rfl | (simp [errW_none, errW_some] <;> rfl) | (simp [*, errW_none, errW_some] <;> rfl), bq_⟩
         ·replace c17 := Bool.eq_false_iff.mpr c17
          subst c17
          have H1 : (some false) = some r := by rw [if_neg (show ¬ (false = true) by decide)] at H; exact H
          clear H
          have H := H1
          clear H1
          obtain rfl := Option.some.inj H
          have p128 : 0 ≤ (x29_2 : Int) := od_
          have q128 : x29_2 < (l0_1.length : Int) := od_
          obtain ⟨ad128, e128, hx128_0, hx128_1, hx128_2⟩ := at_T75 HR0_1.out x29_2 p128 q128
          cases e128
          replace hx128_0 := (HB.out.cell (World.block_lt_of_cell? w _ hx128_0)).trans hx128_0
          replace hx128_1 := (HB.out.cell (World.block_lt_of_cell? w _ hx128_1)).trans hx128_1
          replace hx128_2 := (HB.out.cell (World.block_lt_of_cell? w _ hx128_2)).trans hx128_2
          replace p128 := eq_true p128
          replace q128 := eq_true q128
          go_wp2_with (first | ((with_reducible refine gate_dst (N := 4) rfl ?_); (try (refine gate_guard (by rfl) ?_; dsimp only)); refine boxq_ (N := 4) (cs := #[.int .i64 0, .int .i64 0, .int .i64 0]) (t := 75) ?_; intro gb129 hg w34 hbox hb; have BK129 := am_ (hbox); have GW129 := gz_ hg; have GE129 := gz_ hg; replace HB := bs_ hb; have NB115_129 := nl_ BK115 hg; have NB129_115 := nr_ BK115 hg; replace BK115 := bb_ BK115 hb; clear hb hbox hg; have hnb35 := NB129_115.out; have hnc35 := NB115_129.out; have hcz36_0 := cq_ BK129.out 0 (.int .i64 0); have hcz36_1 := cq_ BK129.out 1 (.int .i64 0); have hcz36_2 := cq_ BK129.out 2 (.int .i64 0); have hfz36_0 := blk_frozen BK129.out 0; have hfz36_1 := blk_frozen BK129.out 1; have hfz36_2 := blk_frozen BK129.out 2; have hcz37_0 := cq_ BK115.out 0 (.int .i64 a0_0); have hcz37_1 := cq_ BK115.out 1 (.slice (some ad128) l0_1.length c0_1); have hcz37_2 := cq_ BK115.out 2 (.int .i64 a0_2); have hfz37_0 := blk_frozen BK115.out 0; have hfz37_1 := blk_frozen BK115.out 1; have hfz37_2 := blk_frozen BK115.out 2) | ((with_reducible refine gl_ 68 rfl ?_); refine goesM_ (some 38) Try.func68 #[.int .i64 ((rd_T75 l0_1 x29_2).f0), .int .i64 1, .int .i64 a0_0] ?_; (with_reducible refine (impl_in.calls ((rd_T75 l0_1 x29_2).f0) 1 a0_0 false _ A16.out).mono ?_); rintro e w' ⟨rfl, ⟨nd, rfl⟩⟩; refine ⟨_, rfl, ?_⟩))
          go_ret
          exact ⟨by first | rfl | (simp [errW_none, errW_some] <;> rfl) | (simp [*, errW_none, errW_some] <;> rfl), bq_⟩
        ·rw [if_neg c15] at H
         exact absurd H (by simp)
       ·rw [if_neg c14] at H
        exact absurd H (by simp)
      ·rw [if_neg c13] at H
       have c13b0 : decide (x29_2 < (l0_1.length : Int)) = false := decide_eq_false c13
       clear c13
       replace H := Option.bind_eq_some_iff.mp H
       obtain ⟨t118, A380, H⟩ := H
       replace H : ((impl_diagram.f k2 a0_0 t118).bind fun bt121 => (if bt121.2.2 = a0_2 then ((impl_Node_85.f k2 bt121.2.1 l0_1).bind fun t127 => (some t127)) else (some false))) = some r := H
       have A38 := am_ A380
       clear A380
       replace H := Option.bind_eq_some_iff.mp H
       obtain ⟨⟨t121, t122, t125⟩, A390, H⟩ := H
       replace H : (if t125 = a0_2 then ((impl_Node_85.f k2 t122 l0_1).bind fun t127 => (some t127)) else (some false)) = some r := H
       have A39 := am_ A390
       clear A390
       by_cases c40 : t125 = a0_2
       ·rw [if_pos c40] at H
        have c40b0 : (t125 == a0_2) = true := beq_iff_eq.mpr c40
        have c40b1 : (t125 != a0_2) = false := bne_eq_false_iff_eq.mpr c40
        clear c40
        replace H := Option.bind_eq_some_iff.mp H
        obtain ⟨t127, A410, H⟩ := H
        replace H : (some t127) = some r := H
        have A41 := am_ A410
        clear A410
        obtain rfl := Option.some.inj H
        try go_wp2
        replace BK115 := am_ (blk_drew BK115.out)
        replace HB := am_ (below_drew1 HB.out)
        refine start_ (n := 7) (S := fun w' => w'.cell? ⟨gb115, 0, none⟩ = some (.int .i64 a0_0) ∧ w'.cell? ⟨gb115, 1, none⟩ = some (.slice A0_1 l0_1.length c0_1) ∧ w'.cell? ⟨gb115, 2, none⟩ = some (.int .i64 a0_2)) (ds := []) #[false, false, false, false, false, false, false] (by kernel_rfl) rfl rfl ⟨(blk_cell BK115.out 0).trans rfl, (blk_cell BK115.out 1).trans rfl, (blk_cell BK115.out 2).trans rfl⟩ (fun hHeld => ?_)
        generalize wr.drew = w42 at BK115 HB hHeld ⊢
        refine pure_ (i := 0) (N := some 57) (v := ?_) (a' := ?_) #[true, false, false, false, false, false, false] rfl rfl (by kernel_rfl) (fun _ _ _ h => h) (Or.inl ⟨by rfl, ?_⟩) ?_ ?_
        rotate_left
        ·intro w'
         go_simp
         with_reducible rfl
        rotate_left
        ·simp only [Act.put, List.setIfInBounds_toArray, List.set_cons_zero, List.set_cons_succ, i64_w, i32_w]
         rfl
        refine take_ (i := 1) (N := some 58) (v := ?_) (a' := ?_) #[true, true, false, false, false, false, false] rfl rfl (by kernel_rfl) (fun _ _ _ h => h) (Or.inl ⟨by rfl, ?_⟩) hHeld ?_ ?_
        rotate_left
        ·rintro w' ⟨s0, s1, s2⟩
         go_simp
         with_reducible rfl
        rotate_left
        ·simp only [Act.put, List.setIfInBounds_toArray, List.set_cons_zero, List.set_cons_succ, i64_w, i32_w]
         rfl
        refine take_ (i := 2) (N := some 59) (v := ?_) (a' := ?_) #[true, true, true, false, false, false, false] rfl rfl (by kernel_rfl) (fun _ _ _ h => h) (Or.inl ⟨by rfl, ?_⟩) hHeld ?_ ?_
        rotate_left
        ·rintro w' ⟨s0, s1, s2⟩
         go_simp
         with_reducible rfl
        rotate_left
        ·simp only [Act.put, List.setIfInBounds_toArray, List.set_cons_zero, List.set_cons_succ, i64_w, i32_w]
         rfl
        refine join_ (σ := Value × Value × Nat) 1 #[true, true, true, true, true, true, false] (fun s_ => [(60, s_.1), (61, .agg #[.int .i64 t121, s_.2.1, .int .i64 t125]), (5, .pointer (some ⟨s_.2.2, 0, none⟩))]) (fun s_ w' => (w'.cell? ⟨gb115, 0, none⟩ = some (.int .i64 a0_0) ∧ w'.cell? ⟨gb115, 1, none⟩ = some (.slice A0_1 l0_1.length c0_1) ∧ w'.cell? ⟨gb115, 2, none⟩ = some (.int .i64 a0_2)) ∧ (Kd.R Kd.bool 4 w' w.heap.size (fun _ => True) s_.1 t118) ∧ (Kd.R k75 75 w' w.heap.size (fun _ => True) s_.2.1 t122) ∧ (w'.heap[gb115]? = some (.cells #[.int .i64 a0_0, .slice A0_1 l0_1.length c0_1, .int .i64 a0_2] 30 (0, 0))) ∧ (w'.heap[s_.2.2]? = some (.cells #[.int .i64 0, .slice none 0 0, .int .i64 0] 30 (0, 0))) ∧ (w.heap.size ≤ s_.2.2) ∧ (w.heap.size ≤ s_.2.2) ∧ (gb115 ≠ s_.2.2) ∧ (s_.2.2 ≠ gb115) ∧ (Below w.heap.size w w')) ?_ ?_
        rotate_left
        ·intro hCont
         refine two_ (i := 3) (j := 5) (Ni := some 60) (Nj := some 5) #[true, true, true, true, false, false, false] #[true, true, true, false, false, true, false] rfl rfl rfl rfl (by kernel_rfl) (by decide) (by decide) (fun K hK => ?_) (fun K hK => ?_)
         ·skip
          refine goes_ Try.func56 (by kernel_rfl) rfl #[.agg #[.int .i64 a0_0, .slice A0_1 l0_1.length c0_1, .int .i64 a0_2]] (by rfl) rfl rfl y16_ ?_
          with_reducible refine (impl_Diagram_table.calls k2 a0_0 _ _ l0_1 a0_2 t118 _ ?side1 ?side2 A38.out).mono ?_
          (case side1 => exact cm_ (Kd.C_below HR0_1.out HB.out))
          (case side2 => exact HC0_1.out)
          rintro e w43 ⟨v119, rfl, ho0, hb⟩
          refine ⟨_, rfl, ?_⟩
          have HO120 := am_ (Kd.R_lower ho0 (below_size (bq_)))
          replace BK115 := bb_ BK115 hb
          replace HB := bs_ hb
          (try clear hb)
          (try clear hb2)
          (try clear hk)
          (try clear hi)
          (try clear ho0)
          obtain ⟨Ao44, co44, eo44⟩ := Kd.R_slice HO120.out
          (first | subst eo44 | (injection eo44 with f1_ f2_ f3_; have f4_ := f1_.symm; have f5_ := f3_.symm; clear f1_ f2_ f3_; subst f4_; subst f5_))
          refine hK.out _ _ ⟨(blk_cell BK115.out 0).trans rfl, (blk_cell BK115.out 1).trans rfl, (blk_cell BK115.out 2).trans rfl⟩ (fun hHeld => ?_)
          clear hK K
          refine norm_ (a' := ?_) ?_ ?_
          rotate_left
          ·show Act.put _ (some 60) _ = _
           simp only [Act.put, List.setIfInBounds_toArray, List.set_cons_zero, List.set_cons_succ, i64_w, i32_w]
           rfl
          refine two_ (i := 4) (j := 5) (Ni := some 61) (Nj := some 5) #[true, true, true, true, true, false, false] #[true, true, true, true, false, true, false] rfl rfl rfl rfl (by kernel_rfl) (by decide) (by decide) (fun K hK => ?_) (fun K hK => ?_)
          ·skip
           refine goes_ Try.func84 (by kernel_rfl) rfl #[.int .i64 a0_0, .slice Ao44 t118.length co44] (by rfl) rfl rfl y16_ ?_
           with_reducible refine (impl_diagram.calls k2 a0_0 _ _ t118 t121 t122 t125 _ ?side1 ?side2 A39.out).mono ?_
           (case side1 => exact cm_ (Kd.R_reads' HO120.out).2.2)
           (case side2 => exact (Kd.R_reads' HO120.out).2.1)
           rintro e w45 ⟨v123, rfl, ho0, hb⟩
           refine ⟨_, rfl, ?_⟩
           replace HO120 := am_ (Kd.R_below (rq_ HO120.out) hb)
           have HO124 := am_ (Kd.R_lower ho0 (below_size (bq_)))
           replace BK115 := bb_ BK115 hb
           replace HB := bs_ hb
           (try clear hb)
           (try clear hb2)
           (try clear hk)
           (try clear hi)
           (try clear ho0)
           refine hK.out _ _ ⟨(blk_cell BK115.out 0).trans rfl, (blk_cell BK115.out 1).trans rfl, (blk_cell BK115.out 2).trans rfl⟩ (fun hHeld => ?_)
           clear hK K
           refine norm_ (a' := ?_) ?_ ?_
           rotate_left
           ·show Act.put _ (some 61) _ = _
            simp only [Act.put, List.setIfInBounds_toArray, List.set_cons_zero, List.set_cons_succ, i64_w, i32_w]
            rfl
           refine one_ (i := 5) (N := some 5) #[true, true, true, true, true, true, false] rfl rfl (by kernel_rfl) (by decide) (fun K hK => ?_)
           refine box_step ?hg (N := 5) ?hd (cs := #[.int .i64 0, .slice none 0 0, .int .i64 0]) (t := 30) ?hr ?_; (case hd => rfl); (case hg => rfl); (case hr => first | (go_simp; done) | (go_simp; rfl))
           intro gb126 hg w46 hbox hb
           have n0_ := am_ (Kd.R_below (rq_ HO120.out) hb)
           have n1_ := am_ (Kd.R_below (rq_ HO124.out) hb)
           have n2_ := bb_ BK115 hb
           have n3_ := bs_ hb
           have n4_ := am_ (hbox)
           have n5_ := gz_ hg
           have n6_ := gz_ hg
           have n7_ := nl_ BK115 hg
           have n8_ := nr_ BK115 hg
           clear HO120 HO124 BK115 HB
           have HO120 := n0_
           have HO124 := n1_
           have BK115 := n2_
           have HB := n3_
           have BK126 := n4_
           have GW126 := n5_
           have GE126 := n6_
           have NB115_126 := n7_
           have NB126_115 := n8_
           clear n0_ n1_ n2_ n3_ n4_ n5_ n6_ n7_ n8_ hb hbox hg
           refine hK.out _ _ ⟨(blk_cell BK115.out 0).trans rfl, (blk_cell BK115.out 1).trans rfl, (blk_cell BK115.out 2).trans rfl⟩ (fun hHeld => ?_)
           clear hK K
           refine norm_ (a' := ?_) ?_ ?_
           rotate_left
           ·show Act.put _ (some 5) _ = _
            simp only [Act.put, List.setIfInBounds_toArray, List.set_cons_zero, List.set_cons_succ, i64_w, i32_w]
            rfl
           exact norm_ y23_ (hCont (.slice Ao44 t118.length co44, v123, gb126) _ ⟨hHeld, (rq_ HO120.out), (rq_ HO124.out), (bk_ BK115.out), (bk_ BK126.out), GW126.out, GE126.out, NB115_126.out, NB126_115.out, (bq_)⟩)
          ·skip
           refine box_step ?hg (N := 5) ?hd (cs := #[.int .i64 0, .slice none 0 0, .int .i64 0]) (t := 30) ?hr ?_; (case hd => rfl); (case hg => rfl); (case hr => first | (go_simp; done) | (go_simp; rfl))
           intro gb126 hg w44 hbox hb
           have n0_ := am_ (Kd.R_below (rq_ HO120.out) hb)
           have n1_ := bb_ BK115 hb
           have n2_ := bs_ hb
           have n3_ := am_ (hbox)
           have n4_ := gz_ hg
           have n5_ := gz_ hg
           have n6_ := nl_ BK115 hg
           have n7_ := nr_ BK115 hg
           clear HO120 BK115 HB
           have HO120 := n0_
           have BK115 := n1_
           have HB := n2_
           have BK126 := n3_
           have GW126 := n4_
           have GE126 := n5_
           have NB115_126 := n6_
           have NB126_115 := n7_
           clear n0_ n1_ n2_ n3_ n4_ n5_ n6_ n7_ hb hbox hg
           obtain ⟨Ao45, co45, eo45⟩ := Kd.R_slice HO120.out
           (first | subst eo45 | (injection eo45 with f1_ f2_ f3_; have f4_ := f1_.symm; have f5_ := f3_.symm; clear f1_ f2_ f3_; subst f4_; subst f5_))
           refine hK.out _ _ ⟨(blk_cell BK115.out 0).trans rfl, (blk_cell BK115.out 1).trans rfl, (blk_cell BK115.out 2).trans rfl⟩ (fun hHeld => ?_)
           clear hK K
           refine norm_ (a' := ?_) ?_ ?_
           rotate_left
           ·show Act.put _ (some 5) _ = _
            simp only [Act.put, List.setIfInBounds_toArray, List.set_cons_zero, List.set_cons_succ, i64_w, i32_w]
            rfl
           refine one_ (i := 4) (N := some 61) #[true, true, true, true, true, true, false] rfl rfl (by kernel_rfl) (by decide) (fun K hK => ?_)
           refine goes_ Try.func84 (by kernel_rfl) rfl #[.int .i64 a0_0, .slice Ao45 t118.length co45] (by rfl) rfl rfl y16_ ?_
           with_reducible refine (impl_diagram.calls k2 a0_0 _ _ t118 t121 t122 t125 _ ?side1 ?side2 A39.out).mono ?_
           (case side1 => exact cm_ (Kd.R_reads' HO120.out).2.2)
           (case side2 => exact (Kd.R_reads' HO120.out).2.1)
           rintro e w46 ⟨v123, rfl, ho0, hb⟩
           refine ⟨_, rfl, ?_⟩
           replace HO120 := am_ (Kd.R_below (rq_ HO120.out) hb)
           have HO124 := am_ (Kd.R_lower ho0 (below_size (bq_)))
           replace BK115 := bb_ BK115 hb
           replace BK126 := bb_ BK126 hb
           replace HB := bs_ hb
           (try clear hb)
           (try clear hb2)
           (try clear hk)
           (try clear hi)
           (try clear ho0)
           refine hK.out _ _ ⟨(blk_cell BK115.out 0).trans rfl, (blk_cell BK115.out 1).trans rfl, (blk_cell BK115.out 2).trans rfl⟩ (fun hHeld => ?_)
           clear hK K
           refine norm_ (a' := ?_) ?_ ?_
           rotate_left
           ·show Act.put _ (some 61) _ = _
            simp only [Act.put, List.setIfInBounds_toArray, List.set_cons_zero, List.set_cons_succ, i64_w, i32_w]
            rfl
           exact norm_ y23_ (hCont (.slice Ao45 t118.length co45, v123, gb126) _ ⟨hHeld, (rq_ HO120.out), (rq_ HO124.out), (bk_ BK115.out), (bk_ BK126.out), GW126.out, GE126.out, NB115_126.out, NB126_115.out, (bq_)⟩)
         ·skip
          refine box_step ?hg (N := 5) ?hd (cs := #[.int .i64 0, .slice none 0 0, .int .i64 0]) (t := 30) ?hr ?_; (case hd => rfl); (case hg => rfl); (case hr => first | (go_simp; done) | (go_simp; rfl))
          intro gb126 hg w43 hbox hb
          have n0_ := bb_ BK115 hb
          have n1_ := bs_ hb
          have n2_ := am_ (hbox)
          have n3_ := gz_ hg
          have n4_ := gz_ hg
          have n5_ := nl_ BK115 hg
          have n6_ := nr_ BK115 hg
          clear BK115 HB
          have BK115 := n0_
          have HB := n1_
          have BK126 := n2_
          have GW126 := n3_
          have GE126 := n4_
          have NB115_126 := n5_
          have NB126_115 := n6_
          clear n0_ n1_ n2_ n3_ n4_ n5_ n6_ hb hbox hg
          refine hK.out _ _ ⟨(blk_cell BK115.out 0).trans rfl, (blk_cell BK115.out 1).trans rfl, (blk_cell BK115.out 2).trans rfl⟩ (fun hHeld => ?_)
          clear hK K
          refine norm_ (a' := ?_) ?_ ?_
          rotate_left
          ·show Act.put _ (some 5) _ = _
           simp only [Act.put, List.setIfInBounds_toArray, List.set_cons_zero, List.set_cons_succ, i64_w, i32_w]
           rfl
          refine one_ (i := 3) (N := some 60) #[true, true, true, true, false, true, false] rfl rfl (by kernel_rfl) (by decide) (fun K hK => ?_)
          refine goes_ Try.func56 (by kernel_rfl) rfl #[.agg #[.int .i64 a0_0, .slice A0_1 l0_1.length c0_1, .int .i64 a0_2]] (by rfl) rfl rfl y16_ ?_
          with_reducible refine (impl_Diagram_table.calls k2 a0_0 _ _ l0_1 a0_2 t118 _ ?side1 ?side2 A38.out).mono ?_
          (case side1 => exact cm_ (Kd.C_below HR0_1.out HB.out))
          (case side2 => exact HC0_1.out)
          rintro e w44 ⟨v119, rfl, ho0, hb⟩
          refine ⟨_, rfl, ?_⟩
          have HO120 := am_ (Kd.R_lower ho0 (below_size (bq_)))
          replace BK115 := bb_ BK115 hb
          replace BK126 := bb_ BK126 hb
          replace HB := bs_ hb
          (try clear hb)
          (try clear hb2)
          (try clear hk)
          (try clear hi)
          (try clear ho0)
          obtain ⟨Ao45, co45, eo45⟩ := Kd.R_slice HO120.out
          (first | subst eo45 | (injection eo45 with f1_ f2_ f3_; have f4_ := f1_.symm; have f5_ := f3_.symm; clear f1_ f2_ f3_; subst f4_; subst f5_))
          refine hK.out _ _ ⟨(blk_cell BK115.out 0).trans rfl, (blk_cell BK115.out 1).trans rfl, (blk_cell BK115.out 2).trans rfl⟩ (fun hHeld => ?_)
          clear hK K
          refine norm_ (a' := ?_) ?_ ?_
          rotate_left
          ·show Act.put _ (some 60) _ = _
           simp only [Act.put, List.setIfInBounds_toArray, List.set_cons_zero, List.set_cons_succ, i64_w, i32_w]
           rfl
          refine one_ (i := 4) (N := some 61) #[true, true, true, true, true, true, false] rfl rfl (by kernel_rfl) (by decide) (fun K hK => ?_)
          refine goes_ Try.func84 (by kernel_rfl) rfl #[.int .i64 a0_0, .slice Ao45 t118.length co45] (by rfl) rfl rfl y16_ ?_
          with_reducible refine (impl_diagram.calls k2 a0_0 _ _ t118 t121 t122 t125 _ ?side1 ?side2 A39.out).mono ?_
          (case side1 => exact cm_ (Kd.R_reads' HO120.out).2.2)
          (case side2 => exact (Kd.R_reads' HO120.out).2.1)
          rintro e w46 ⟨v123, rfl, ho0, hb⟩
          refine ⟨_, rfl, ?_⟩
          replace HO120 := am_ (Kd.R_below (rq_ HO120.out) hb)
          have HO124 := am_ (Kd.R_lower ho0 (below_size (bq_)))
          replace BK115 := bb_ BK115 hb
          replace BK126 := bb_ BK126 hb
          replace HB := bs_ hb
          (try clear hb)
          (try clear hb2)
          (try clear hk)
          (try clear hi)
          (try clear ho0)
          refine hK.out _ _ ⟨(blk_cell BK115.out 0).trans rfl, (blk_cell BK115.out 1).trans rfl, (blk_cell BK115.out 2).trans rfl⟩ (fun hHeld => ?_)
          clear hK K
          refine norm_ (a' := ?_) ?_ ?_
          rotate_left
          ·show Act.put _ (some 61) _ = _
           simp only [Act.put, List.setIfInBounds_toArray, List.set_cons_zero, List.set_cons_succ, i64_w, i32_w]
           rfl
          exact norm_ y23_ (hCont (.slice Ao45 t118.length co45, v123, gb126) _ ⟨hHeld, (rq_ HO120.out), (rq_ HO124.out), (bk_ BK115.out), (bk_ BK126.out), GW126.out, GE126.out, NB115_126.out, NB126_115.out, (bq_)⟩)
        rintro ⟨v119, v123, gb126⟩ w47 ⟨hS_, h0_, h1_, h2_, h3_, h4_, h5_, h6_, h7_, h8_⟩
        have n0_ : Aside0 (Kd.R Kd.bool 4 w47 w.heap.size (fun _ => True) v119 t118) := ⟨h0_⟩
        have n1_ : Aside0 (Kd.R k75 75 w47 w.heap.size (fun _ => True) v123 t122) := ⟨h1_⟩
        have n2_ : Aside0 (w47.heap[gb115]? = some (.cells #[.int .i64 a0_0, .slice A0_1 l0_1.length c0_1, .int .i64 a0_2] 30 (0, 0))) := ⟨h2_⟩
        have n3_ : Aside0 (w47.heap[gb126]? = some (.cells #[.int .i64 0, .slice none 0 0, .int .i64 0] 30 (0, 0))) := ⟨h3_⟩
        have n4_ : Aside0 (w.heap.size ≤ gb126) := ⟨h4_⟩
        have n5_ : Aside0 (w.heap.size ≤ gb126) := ⟨h5_⟩
        have n6_ : Aside0 (gb115 ≠ gb126) := ⟨h6_⟩
        have n7_ : Aside0 (gb126 ≠ gb115) := ⟨h7_⟩
        have n8_ : Aside0 (Below w.heap.size w w47) := ⟨h8_⟩
        clear BK115 HB h0_ h1_ h2_ h3_ h4_ h5_ h6_ h7_ h8_
        have HO120 := n0_
        have HO124 := n1_
        have BK115 := n2_
        have BK126 := n3_
        have GW126 := n4_
        have GE126 := n5_
        have NB115_126 := n6_
        have NB126_115 := n7_
        have HB := n8_
        clear n0_ n1_ n2_ n3_ n4_ n5_ n6_ n7_ n8_
        have hHeld : w47.cell? ⟨gb115, 0, none⟩ = some (.int .i64 a0_0) ∧ w47.cell? ⟨gb115, 1, none⟩ = some (.slice A0_1 l0_1.length c0_1) ∧ w47.cell? ⟨gb115, 2, none⟩ = some (.int .i64 a0_2) := hS_
        obtain ⟨Ao49, co49, eo49⟩ := Kd.R_slice HO124.out
        (first | subst eo49 | (injection eo49 with f1_ f2_ f3_; have f4_ := f1_.symm; have f5_ := f3_.symm; clear f1_ f2_ f3_; subst f4_; subst f5_))
        refine norm_ (a' := ?_) ?_ ?_
        rotate_left
        ·simp only [putAll, Act.put, List.setIfInBounds_toArray, List.set_cons_zero, List.set_cons_succ]
         rfl
        refine one_ (i := 6) (N := none) #[true, true, true, true, true, true, true] rfl rfl (by kernel_rfl) (by decide) (fun K hK => ?_)
        have hs48 : w47.cell? ⟨gb126, 0, none⟩ = some (.int .i64 0) := (blk_cell BK126.out 0).trans rfl
        have hfs48 := blk_frozen BK126.out 0
        have hns48_0 := NB115_126.out
        have hms48_0 := NB126_115.out
        have hs50 : w47.cell? ⟨gb126, 1, none⟩ = some (.slice none 0 0) := (blk_cell BK126.out 1).trans rfl
        have hfs50 := blk_frozen BK126.out 1
        have hns50_0 := NB115_126.out
        have hms50_0 := NB126_115.out
        have hs51 : w47.cell? ⟨gb126, 2, none⟩ = some (.int .i64 0) := (blk_cell BK126.out 2).trans rfl
        have hfs51 := blk_frozen BK126.out 2
        have hns51_0 := NB115_126.out
        have hms51_0 := NB126_115.out
        refine skip_ (w1 := ?_) (by rfl) rfl ?_ ?_
        rotate_left
        ·go_simp
         rfl
        refine hK.out _ _ ⟨((cell_far (p := ⟨gb126, _, none⟩) NB115_126.out _).trans (((cell_far (p := ⟨gb126, _, none⟩) NB115_126.out _).trans (((cell_far (p := ⟨gb126, _, none⟩) NB115_126.out _).trans (hHeld.1)))))), ((cell_far (p := ⟨gb126, _, none⟩) NB115_126.out _).trans (((cell_far (p := ⟨gb126, _, none⟩) NB115_126.out _).trans (((cell_far (p := ⟨gb126, _, none⟩) NB115_126.out _).trans (hHeld.2.1)))))), ((cell_far (p := ⟨gb126, _, none⟩) NB115_126.out _).trans (((cell_far (p := ⟨gb126, _, none⟩) NB115_126.out _).trans (((cell_far (p := ⟨gb126, _, none⟩) NB115_126.out _).trans (hHeld.2.2))))))⟩ (fun hHeld => ?_)
        clear hK K
        refine done_ (by kernel_rfl) ?_
        have hnb52 := NB126_115.out
        have hnc52 := NB115_126.out
        have hcz53_0 := cq_ BK126.out 0 (.int .i64 0)
        have hcz53_1 := cq_ BK126.out 1 (.slice none 0 0)
        have hcz53_2 := cq_ BK126.out 2 (.int .i64 0)
        have hfz53_0 := blk_frozen BK126.out 0
        have hfz53_1 := blk_frozen BK126.out 1
        have hfz53_2 := blk_frozen BK126.out 2
        have hcz54_0 := cq_ BK115.out 0 (.int .i64 a0_0)
        have hcz54_1 := cq_ BK115.out 1 (.slice A0_1 l0_1.length c0_1)
        have hcz54_2 := cq_ BK115.out 2 (.int .i64 a0_2)
        have hfz54_0 := blk_frozen BK115.out 0
        have hfz54_1 := blk_frozen BK115.out 1
        have hfz54_2 := blk_frozen BK115.out 2
        try go_wp2_with (first | (go_at_call 85; (with_reducible refine (impl_Node_85.calls k2 _ _ t122 _ _ l0_1 t127 _ ?side1 ?side2 ?side3 ?side4 A41.out).mono ?_); (case side1 => refine (Kd.R_reads' (e := 75) (base := w.heap.size) (ok := fun k_ => True) (n := t122.length) (c := co49) ?_).2.2; exact (rg_ HO124 BK126)); (case side2 => exact (Kd.R_reads' HO124.out).2.1); (case side3 => exact Kd.C_below HR0_1.out (bq_)); (case side4 => exact HC0_1.out); rintro e w' ⟨rfl, ⟨nd, rfl⟩⟩))
        go_ret
        exact ⟨by first | rfl | (simp [errW_none, errW_some] <;> rfl) | (simp [*, errW_none, errW_some] <;> rfl), bq_⟩
       ·rw [if_neg c40] at H
        have c40b0 : (t125 == a0_2) = false := beq_eq_false_iff_ne.mpr c40
        have c40b1 : (t125 != a0_2) = true := bne_iff_ne.mpr c40
        obtain rfl := Option.some.inj H
        try go_wp2
        replace BK115 := am_ (blk_drew BK115.out)
        replace HB := am_ (below_drew1 HB.out)
        refine start_ (n := 7) (S := fun w' => w'.cell? ⟨gb115, 0, none⟩ = some (.int .i64 a0_0) ∧ w'.cell? ⟨gb115, 1, none⟩ = some (.slice A0_1 l0_1.length c0_1) ∧ w'.cell? ⟨gb115, 2, none⟩ = some (.int .i64 a0_2)) (ds := []) #[false, false, false, false, false, false, false] (by kernel_rfl) rfl rfl ⟨(blk_cell BK115.out 0).trans rfl, (blk_cell BK115.out 1).trans rfl, (blk_cell BK115.out 2).trans rfl⟩ (fun hHeld => ?_)
        generalize wr.drew = w55 at BK115 HB hHeld ⊢
        refine pure_ (i := 0) (N := some 57) (v := ?_) (a' := ?_) #[true, false, false, false, false, false, false] rfl rfl (by kernel_rfl) (fun _ _ _ h => h) (Or.inl ⟨by rfl, ?_⟩) ?_ ?_
        rotate_left
        ·intro w'
         go_simp
         with_reducible rfl
        rotate_left
        ·simp only [Act.put, List.setIfInBounds_toArray, List.set_cons_zero, List.set_cons_succ, i64_w, i32_w]
         rfl
        refine take_ (i := 1) (N := some 58) (v := ?_) (a' := ?_) #[true, true, false, false, false, false, false] rfl rfl (by kernel_rfl) (fun _ _ _ h => h) (Or.inl ⟨by rfl, ?_⟩) hHeld ?_ ?_
        rotate_left
        ·rintro w' ⟨s0, s1, s2⟩
         go_simp
         with_reducible rfl
        rotate_left
        ·simp only [Act.put, List.setIfInBounds_toArray, List.set_cons_zero, List.set_cons_succ, i64_w, i32_w]
         rfl
        refine take_ (i := 2) (N := some 59) (v := ?_) (a' := ?_) #[true, true, true, false, false, false, false] rfl rfl (by kernel_rfl) (fun _ _ _ h => h) (Or.inl ⟨by rfl, ?_⟩) hHeld ?_ ?_
        rotate_left
        ·rintro w' ⟨s0, s1, s2⟩
         go_simp
         with_reducible rfl
        rotate_left
        ·simp only [Act.put, List.setIfInBounds_toArray, List.set_cons_zero, List.set_cons_succ, i64_w, i32_w]
         rfl
        refine join_ (σ := Value × Value × Nat) 1 #[true, true, true, true, true, true, false] (fun s_ => [(60, s_.1), (61, .agg #[.int .i64 t121, s_.2.1, .int .i64 t125]), (5, .pointer (some ⟨s_.2.2, 0, none⟩))]) (fun s_ w' => (w'.cell? ⟨gb115, 0, none⟩ = some (.int .i64 a0_0) ∧ w'.cell? ⟨gb115, 1, none⟩ = some (.slice A0_1 l0_1.length c0_1) ∧ w'.cell? ⟨gb115, 2, none⟩ = some (.int .i64 a0_2)) ∧ (Kd.R Kd.bool 4 w' w.heap.size (fun _ => True) s_.1 t118) ∧ (Kd.R k75 75 w' w.heap.size (fun _ => True) s_.2.1 t122) ∧ (w'.heap[gb115]? = some (.cells #[.int .i64 a0_0, .slice A0_1 l0_1.length c0_1, .int .i64 a0_2] 30 (0, 0))) ∧ (w'.heap[s_.2.2]? = some (.cells #[.int .i64 0, .slice none 0 0, .int .i64 0] 30 (0, 0))) ∧ (w.heap.size ≤ s_.2.2) ∧ (w.heap.size ≤ s_.2.2) ∧ (gb115 ≠ s_.2.2) ∧ (s_.2.2 ≠ gb115) ∧ (Below w.heap.size w w')) ?_ ?_
        rotate_left
        ·intro hCont
         refine two_ (i := 3) (j := 5) (Ni := some 60) (Nj := some 5) #[true, true, true, true, false, false, false] #[true, true, true, false, false, true, false] rfl rfl rfl rfl (by kernel_rfl) (by decide) (by decide) (fun K hK => ?_) (fun K hK => ?_)
         ·skip
          refine goes_ Try.func56 (by kernel_rfl) rfl #[.agg #[.int .i64 a0_0, .slice A0_1 l0_1.length c0_1, .int .i64 a0_2]] (by rfl) rfl rfl y16_ ?_
          with_reducible refine (impl_Diagram_table.calls k2 a0_0 _ _ l0_1 a0_2 t118 _ ?side1 ?side2 A38.out).mono ?_
          (case side1 => exact cm_ (Kd.C_below HR0_1.out HB.out))
          (case side2 => exact HC0_1.out)
          rintro e w56 ⟨v119, rfl, ho0, hb⟩
          refine ⟨_, rfl, ?_⟩
          have HO120 := am_ (Kd.R_lower ho0 (below_size (bq_)))
          replace BK115 := bb_ BK115 hb
          replace HB := bs_ hb
          (try clear hb)
          (try clear hb2)
          (try clear hk)
          (try clear hi)
          (try clear ho0)
          obtain ⟨Ao57, co57, eo57⟩ := Kd.R_slice HO120.out
          (first | subst eo57 | (injection eo57 with f1_ f2_ f3_; have f4_ := f1_.symm; have f5_ := f3_.symm; clear f1_ f2_ f3_; subst f4_; subst f5_))
          refine hK.out _ _ ⟨(blk_cell BK115.out 0).trans rfl, (blk_cell BK115.out 1).trans rfl, (blk_cell BK115.out 2).trans rfl⟩ (fun hHeld => ?_)
          clear hK K
          refine norm_ (a' := ?_) ?_ ?_
          rotate_left
          ·show Act.put _ (some 60) _ = _
           simp only [Act.put, List.setIfInBounds_toArray, List.set_cons_zero, List.set_cons_succ, i64_w, i32_w]
           rfl
          refine two_ (i := 4) (j := 5) (Ni := some 61) (Nj := some 5) #[true, true, true, true, true, false, false] #[true, true, true, true, false, true, false] rfl rfl rfl rfl (by kernel_rfl) (by decide) (by decide) (fun K hK => ?_) (fun K hK => ?_)
          ·skip
           refine goes_ Try.func84 (by kernel_rfl) rfl #[.int .i64 a0_0, .slice Ao57 t118.length co57] (by rfl) rfl rfl y16_ ?_
           with_reducible refine (impl_diagram.calls k2 a0_0 _ _ t118 t121 t122 t125 _ ?side1 ?side2 A39.out).mono ?_
           (case side1 => exact cm_ (Kd.R_reads' HO120.out).2.2)
           (case side2 => exact (Kd.R_reads' HO120.out).2.1)
           rintro e w58 ⟨v123, rfl, ho0, hb⟩
           refine ⟨_, rfl, ?_⟩
           replace HO120 := am_ (Kd.R_below (rq_ HO120.out) hb)
           have HO124 := am_ (Kd.R_lower ho0 (below_size (bq_)))
           replace BK115 := bb_ BK115 hb
           replace HB := bs_ hb
           (try clear hb)
           (try clear hb2)
           (try clear hk)
           (try clear hi)
           (try clear ho0)
           refine hK.out _ _ ⟨(blk_cell BK115.out 0).trans rfl, (blk_cell BK115.out 1).trans rfl, (blk_cell BK115.out 2).trans rfl⟩ (fun hHeld => ?_)
           clear hK K
           refine norm_ (a' := ?_) ?_ ?_
           rotate_left
           ·show Act.put _ (some 61) _ = _
            simp only [Act.put, List.setIfInBounds_toArray, List.set_cons_zero, List.set_cons_succ, i64_w, i32_w]
            rfl
           refine one_ (i := 5) (N := some 5) #[true, true, true, true, true, true, false] rfl rfl (by kernel_rfl) (by decide) (fun K hK => ?_)
           refine box_step ?hg (N := 5) ?hd (cs := #[.int .i64 0, .slice none 0 0, .int .i64 0]) (t := 30) ?hr ?_; (case hd => rfl); (case hg => rfl); (case hr => first | (go_simp; done) | (go_simp; rfl))
           intro gb126 hg w59 hbox hb
           have n0_ := am_ (Kd.R_below (rq_ HO120.out) hb)
           have n1_ := am_ (Kd.R_below (rq_ HO124.out) hb)
           have n2_ := bb_ BK115 hb
           have n3_ := bs_ hb
           have n4_ := am_ (hbox)
           have n5_ := gz_ hg
           have n6_ := gz_ hg
           have n7_ := nl_ BK115 hg
           have n8_ := nr_ BK115 hg
           clear HO120 HO124 BK115 HB
           have HO120 := n0_
           have HO124 := n1_
           have BK115 := n2_
           have HB := n3_
           have BK126 := n4_
           have GW126 := n5_
           have GE126 := n6_
           have NB115_126 := n7_
           have NB126_115 := n8_
           clear n0_ n1_ n2_ n3_ n4_ n5_ n6_ n7_ n8_ hb hbox hg
           refine hK.out _ _ ⟨(blk_cell BK115.out 0).trans rfl, (blk_cell BK115.out 1).trans rfl, (blk_cell BK115.out 2).trans rfl⟩ (fun hHeld => ?_)
           clear hK K
           refine norm_ (a' := ?_) ?_ ?_
           rotate_left
           ·show Act.put _ (some 5) _ = _
            simp only [Act.put, List.setIfInBounds_toArray, List.set_cons_zero, List.set_cons_succ, i64_w, i32_w]
            rfl
           exact norm_ y23_ (hCont (.slice Ao57 t118.length co57, v123, gb126) _ ⟨hHeld, (rq_ HO120.out), (rq_ HO124.out), (bk_ BK115.out), (bk_ BK126.out), GW126.out, GE126.out, NB115_126.out, NB126_115.out, (bq_)⟩)
          ·skip
           refine box_step ?hg (N := 5) ?hd (cs := #[.int .i64 0, .slice none 0 0, .int .i64 0]) (t := 30) ?hr ?_; (case hd => rfl); (case hg => rfl); (case hr => first | (go_simp; done) | (go_simp; rfl))
           intro gb126 hg w57 hbox hb
           have n0_ := am_ (Kd.R_below (rq_ HO120.out) hb)
           have n1_ := bb_ BK115 hb
           have n2_ := bs_ hb
           have n3_ := am_ (hbox)
           have n4_ := gz_ hg
           have n5_ := gz_ hg
           have n6_ := nl_ BK115 hg
           have n7_ := nr_ BK115 hg
           clear HO120 BK115 HB
           have HO120 := n0_
           have BK115 := n1_
           have HB := n2_
           have BK126 := n3_
           have GW126 := n4_
           have GE126 := n5_
           have NB115_126 := n6_
           have NB126_115 := n7_
           clear n0_ n1_ n2_ n3_ n4_ n5_ n6_ n7_ hb hbox hg
           obtain ⟨Ao58, co58, eo58⟩ := Kd.R_slice HO120.out
           (first | subst eo58 | (injection eo58 with f1_ f2_ f3_; have f4_ := f1_.symm; have f5_ := f3_.symm; clear f1_ f2_ f3_; subst f4_; subst f5_))
           refine hK.out _ _ ⟨(blk_cell BK115.out 0).trans rfl, (blk_cell BK115.out 1).trans rfl, (blk_cell BK115.out 2).trans rfl⟩ (fun hHeld => ?_)
           clear hK K
           refine norm_ (a' := ?_) ?_ ?_
           rotate_left
           ·show Act.put _ (some 5) _ = _
            simp only [Act.put, List.setIfInBounds_toArray, List.set_cons_zero, List.set_cons_succ, i64_w, i32_w]
            rfl
           refine one_ (i := 4) (N := some 61) #[true, true, true, true, true, true, false] rfl rfl (by kernel_rfl) (by decide) (fun K hK => ?_)
           refine goes_ Try.func84 (by kernel_rfl) rfl #[.int .i64 a0_0, .slice Ao58 t118.length co58] (by rfl) rfl rfl y16_ ?_
           with_reducible refine (impl_diagram.calls k2 a0_0 _ _ t118 t121 t122 t125 _ ?side1 ?side2 A39.out).mono ?_
           (case side1 => exact cm_ (Kd.R_reads' HO120.out).2.2)
           (case side2 => exact (Kd.R_reads' HO120.out).2.1)
           rintro e w59 ⟨v123, rfl, ho0, hb⟩
           refine ⟨_, rfl, ?_⟩
           replace HO120 := am_ (Kd.R_below (rq_ HO120.out) hb)
           have HO124 := am_ (Kd.R_lower ho0 (below_size (bq_)))
           replace BK115 := bb_ BK115 hb
           replace BK126 := bb_ BK126 hb
           replace HB := bs_ hb
           (try clear hb)
           (try clear hb2)
           (try clear hk)
           (try clear hi)
           (try clear ho0)
           refine hK.out _ _ ⟨(blk_cell BK115.out 0).trans rfl, (blk_cell BK115.out 1).trans rfl, (blk_cell BK115.out 2).trans rfl⟩ (fun hHeld => ?_)
           clear hK K
           refine norm_ (a' := ?_) ?_ ?_
           rotate_left
           ·show Act.put _ (some 61) _ = _
            simp only [Act.put, List.setIfInBounds_toArray, List.set_cons_zero, List.set_cons_succ, i64_w, i32_w]
            rfl
           exact norm_ y23_ (hCont (.slice Ao58 t118.length co58, v123, gb126) _ ⟨hHeld, (rq_ HO120.out), (rq_ HO124.out), (bk_ BK115.out), (bk_ BK126.out), GW126.out, GE126.out, NB115_126.out, NB126_115.out, (bq_)⟩)
         ·skip
          refine box_step ?hg (N := 5) ?hd (cs := #[.int .i64 0, .slice none 0 0, .int .i64 0]) (t := 30) ?hr ?_; (case hd => rfl); (case hg => rfl); (case hr => first | (go_simp; done) | (go_simp; rfl))
          intro gb126 hg w56 hbox hb
          have n0_ := bb_ BK115 hb
          have n1_ := bs_ hb
          have n2_ := am_ (hbox)
          have n3_ := gz_ hg
          have n4_ := gz_ hg
          have n5_ := nl_ BK115 hg
          have n6_ := nr_ BK115 hg
          clear BK115 HB
          have BK115 := n0_
          have HB := n1_
          have BK126 := n2_
          have GW126 := n3_
          have GE126 := n4_
          have NB115_126 := n5_
          have NB126_115 := n6_
          clear n0_ n1_ n2_ n3_ n4_ n5_ n6_ hb hbox hg
          refine hK.out _ _ ⟨(blk_cell BK115.out 0).trans rfl, (blk_cell BK115.out 1).trans rfl, (blk_cell BK115.out 2).trans rfl⟩ (fun hHeld => ?_)
          clear hK K
          refine norm_ (a' := ?_) ?_ ?_
          rotate_left
          ·show Act.put _ (some 5) _ = _
           simp only [Act.put, List.setIfInBounds_toArray, List.set_cons_zero, List.set_cons_succ, i64_w, i32_w]
           rfl
          refine one_ (i := 3) (N := some 60) #[true, true, true, true, false, true, false] rfl rfl (by kernel_rfl) (by decide) (fun K hK => ?_)
          refine goes_ Try.func56 (by kernel_rfl) rfl #[.agg #[.int .i64 a0_0, .slice A0_1 l0_1.length c0_1, .int .i64 a0_2]] (by rfl) rfl rfl y16_ ?_
          with_reducible refine (impl_Diagram_table.calls k2 a0_0 _ _ l0_1 a0_2 t118 _ ?side1 ?side2 A38.out).mono ?_
          (case side1 => exact cm_ (Kd.C_below HR0_1.out HB.out))
          (case side2 => exact HC0_1.out)
          rintro e w57 ⟨v119, rfl, ho0, hb⟩
          refine ⟨_, rfl, ?_⟩
          have HO120 := am_ (Kd.R_lower ho0 (below_size (bq_)))
          replace BK115 := bb_ BK115 hb
          replace BK126 := bb_ BK126 hb
          replace HB := bs_ hb
          (try clear hb)
          (try clear hb2)
          (try clear hk)
          (try clear hi)
          (try clear ho0)
          obtain ⟨Ao58, co58, eo58⟩ := Kd.R_slice HO120.out
          (first | subst eo58 | (injection eo58 with f1_ f2_ f3_; have f4_ := f1_.symm; have f5_ := f3_.symm; clear f1_ f2_ f3_; subst f4_; subst f5_))
          refine hK.out _ _ ⟨(blk_cell BK115.out 0).trans rfl, (blk_cell BK115.out 1).trans rfl, (blk_cell BK115.out 2).trans rfl⟩ (fun hHeld => ?_)
          clear hK K
          refine norm_ (a' := ?_) ?_ ?_
          rotate_left
          ·show Act.put _ (some 60) _ = _
           simp only [Act.put, List.setIfInBounds_toArray, List.set_cons_zero, List.set_cons_succ, i64_w, i32_w]
           rfl
          refine one_ (i := 4) (N := some 61) #[true, true, true, true, true, true, false] rfl rfl (by kernel_rfl) (by decide) (fun K hK => ?_)
          refine goes_ Try.func84 (by kernel_rfl) rfl #[.int .i64 a0_0, .slice Ao58 t118.length co58] (by rfl) rfl rfl y16_ ?_
          with_reducible refine (impl_diagram.calls k2 a0_0 _ _ t118 t121 t122 t125 _ ?side1 ?side2 A39.out).mono ?_
          (case side1 => exact cm_ (Kd.R_reads' HO120.out).2.2)
          (case side2 => exact (Kd.R_reads' HO120.out).2.1)
          rintro e w59 ⟨v123, rfl, ho0, hb⟩
          refine ⟨_, rfl, ?_⟩
          replace HO120 := am_ (Kd.R_below (rq_ HO120.out) hb)
          have HO124 := am_ (Kd.R_lower ho0 (below_size (bq_)))
          replace BK115 := bb_ BK115 hb
          replace BK126 := bb_ BK126 hb
          replace HB := bs_ hb
          (try clear hb)
          (try clear hb2)
          (try clear hk)
          (try clear hi)
          (try clear ho0)
          refine hK.out _ _ ⟨(blk_cell BK115.out 0).trans rfl, (blk_cell BK115.out 1).trans rfl, (blk_cell BK115.out 2).trans rfl⟩ (fun hHeld => ?_)
          clear hK K
          refine norm_ (a' := ?_) ?_ ?_
          rotate_left
          ·show Act.put _ (some 61) _ = _
           simp only [Act.put, List.setIfInBounds_toArray, List.set_cons_zero, List.set_cons_succ, i64_w, i32_w]
           rfl
          exact norm_ y23_ (hCont (.slice Ao58 t118.length co58, v123, gb126) _ ⟨hHeld, (rq_ HO120.out), (rq_ HO124.out), (bk_ BK115.out), (bk_ BK126.out), GW126.out, GE126.out, NB115_126.out, NB126_115.out, (bq_)⟩)
        rintro ⟨v119, v123, gb126⟩ w60 ⟨hS_, h0_, h1_, h2_, h3_, h4_, h5_, h6_, h7_, h8_⟩
        have n0_ : Aside0 (Kd.R Kd.bool 4 w60 w.heap.size (fun _ => True) v119 t118) := ⟨h0_⟩
        have n1_ : Aside0 (Kd.R k75 75 w60 w.heap.size (fun _ => True) v123 t122) := ⟨h1_⟩
        have n2_ : Aside0 (w60.heap[gb115]? = some (.cells #[.int .i64 a0_0, .slice A0_1 l0_1.length c0_1, .int .i64 a0_2] 30 (0, 0))) := ⟨h2_⟩
        have n3_ : Aside0 (w60.heap[gb126]? = some (.cells #[.int .i64 0, .slice none 0 0, .int .i64 0] 30 (0, 0))) := ⟨h3_⟩
        have n4_ : Aside0 (w.heap.size ≤ gb126) := ⟨h4_⟩
        have n5_ : Aside0 (w.heap.size ≤ gb126) := ⟨h5_⟩
        have n6_ : Aside0 (gb115 ≠ gb126) := ⟨h6_⟩
        have n7_ : Aside0 (gb126 ≠ gb115) := ⟨h7_⟩
        have n8_ : Aside0 (Below w.heap.size w w60) := ⟨h8_⟩
        clear BK115 HB h0_ h1_ h2_ h3_ h4_ h5_ h6_ h7_ h8_
        have HO120 := n0_
        have HO124 := n1_
        have BK115 := n2_
        have BK126 := n3_
        have GW126 := n4_
        have GE126 := n5_
        have NB115_126 := n6_
        have NB126_115 := n7_
        have HB := n8_
        clear n0_ n1_ n2_ n3_ n4_ n5_ n6_ n7_ n8_
        have hHeld : w60.cell? ⟨gb115, 0, none⟩ = some (.int .i64 a0_0) ∧ w60.cell? ⟨gb115, 1, none⟩ = some (.slice A0_1 l0_1.length c0_1) ∧ w60.cell? ⟨gb115, 2, none⟩ = some (.int .i64 a0_2) := hS_
        obtain ⟨Ao62, co62, eo62⟩ := Kd.R_slice HO124.out
        (first | subst eo62 | (injection eo62 with f1_ f2_ f3_; have f4_ := f1_.symm; have f5_ := f3_.symm; clear f1_ f2_ f3_; subst f4_; subst f5_))
        refine norm_ (a' := ?_) ?_ ?_
        rotate_left
        ·simp only [putAll, Act.put, List.setIfInBounds_toArray, List.set_cons_zero, List.set_cons_succ]
         rfl
        refine one_ (i := 6) (N := none) #[true, true, true, true, true, true, true] rfl rfl (by kernel_rfl) (by decide) (fun K hK => ?_)
        have hs61 : w60.cell? ⟨gb126, 0, none⟩ = some (.int .i64 0) := (blk_cell BK126.out 0).trans rfl
        have hfs61 := blk_frozen BK126.out 0
        have hns61_0 := NB115_126.out
        have hms61_0 := NB126_115.out
        have hs63 : w60.cell? ⟨gb126, 1, none⟩ = some (.slice none 0 0) := (blk_cell BK126.out 1).trans rfl
        have hfs63 := blk_frozen BK126.out 1
        have hns63_0 := NB115_126.out
        have hms63_0 := NB126_115.out
        have hs64 : w60.cell? ⟨gb126, 2, none⟩ = some (.int .i64 0) := (blk_cell BK126.out 2).trans rfl
        have hfs64 := blk_frozen BK126.out 2
        have hns64_0 := NB115_126.out
        have hms64_0 := NB126_115.out
        refine skip_ (w1 := ?_) (by rfl) rfl ?_ ?_
        rotate_left
        ·go_simp
         rfl
        refine hK.out _ _ ⟨((cell_far (p := ⟨gb126, _, none⟩) NB115_126.out _).trans (((cell_far (p := ⟨gb126, _, none⟩) NB115_126.out _).trans (((cell_far (p := ⟨gb126, _, none⟩) NB115_126.out _).trans (hHeld.1)))))), ((cell_far (p := ⟨gb126, _, none⟩) NB115_126.out _).trans (((cell_far (p := ⟨gb126, _, none⟩) NB115_126.out _).trans (((cell_far (p := ⟨gb126, _, none⟩) NB115_126.out _).trans (hHeld.2.1)))))), ((cell_far (p := ⟨gb126, _, none⟩) NB115_126.out _).trans (((cell_far (p := ⟨gb126, _, none⟩) NB115_126.out _).trans (((cell_far (p := ⟨gb126, _, none⟩) NB115_126.out _).trans (hHeld.2.2))))))⟩ (fun hHeld => ?_)
        clear hK K
        refine done_ (by kernel_rfl) ?_
        have hnb65 := NB126_115.out
        have hnc65 := NB115_126.out
        have hcz66_0 := cq_ BK126.out 0 (.int .i64 0)
        have hcz66_1 := cq_ BK126.out 1 (.slice none 0 0)
        have hcz66_2 := cq_ BK126.out 2 (.int .i64 0)
        have hfz66_0 := blk_frozen BK126.out 0
        have hfz66_1 := blk_frozen BK126.out 1
        have hfz66_2 := blk_frozen BK126.out 2
        have hcz67_0 := cq_ BK115.out 0 (.int .i64 a0_0)
        have hcz67_1 := cq_ BK115.out 1 (.slice A0_1 l0_1.length c0_1)
        have hcz67_2 := cq_ BK115.out 2 (.int .i64 a0_2)
        have hfz67_0 := blk_frozen BK115.out 0
        have hfz67_1 := blk_frozen BK115.out 1
        have hfz67_2 := blk_frozen BK115.out 2
        try go_wp2
        go_ret
        exact ⟨by first | rfl | (simp [errW_none, errW_some] <;> rfl) | (simp [*, errW_none, errW_some] <;> rfl), bq_⟩
end Go.Proofs.Ytpndhlcbfobelaa.PDX
