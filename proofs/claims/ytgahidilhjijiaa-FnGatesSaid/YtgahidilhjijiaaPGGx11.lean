import Derived.Test.YtgahidilhjijiaaPGGx0
import Derived.Test.YtgahidilhjijiaaPGGx3
import Derived.Test.YtgahidilhjijiaaPGGx4
import Derived.Test.YtgahidilhjijiaaPGGx5
import Derived.Test.YtgahidilhjijiaaPGGx6
import Derived.Test.YtgahidilhjijiaaPGGx8
import Derived.Test.YtgahidilhjijiaaPGGx9
import Derived.Test.YtgahidilhjijiaaPGGx10
namespace Go.Proofs.Ytgahidilhjijiaa.PGG
open Go.RowKit Go.Proofs.YtgahidilhjijiaaW.PrintWords Go.Proofs.YtgahidilhjijiaaW.PrintLast Go.Proofs.YtgahidilhjijiaaW.PrintMore
attribute [local go_sem] max2_int min2_int max_two min_two max_three min_three max_four min_four   -- for this text's walks alone
set_option linter.unusedVariables false
set_option linter.unusedSimpArgs false
def impl_decide.l0 : Nat → Int → List Int → Int → Option (Int × Bool)
 | 0, _, _, _ => none
 | k + 1, x0, x1, x6 => if x6 ≤ x0 then ((slices_Contains_int_int.f k x1 x6).bind fun t486 => (if t486 = true then (impl_decide.l0 k x0 x1 (wrap64 (x6 + 1))) else ((slices_Contains_int_int.f k x1 (wrap64 (-x6))).bind fun t487 => (if t487 = true then (impl_decide.l0 k x0 x1 (wrap64 (x6 + 1))) else (some (x6, true)))))) else (some (0, false))
def impl_decide.f (k : Nat) (a0 : Int) (l1 : List Int) : Option (Int × Bool) := impl_decide.l0 k a0 l1 1
set_option maxHeartbeats 8000000 in
set_option maxRecDepth 100000 in
theorem impl_decide.calls (k : Nat) (a0 : Int) (A1 : Option Addr) (c1 : Nat) (l1 : List Int) (r1 : Int) (r2 : Bool) (w : World) (hr1 : Kd.C (Kd.int .i64) w A1 l1.length l1) (hc1 : l1.length ≤ c1) (h : impl_decide.f k a0 l1 = some (r1, r2)) :
  Calls Try.prog 84 #[.int .i64 a0, .slice A1 l1.length c1] w fun e w' => e = .returned (.tuple #[.int .i64 r1, .bool r2]) ∧ Drawn0 w w' := by
 have HR1 := am_ hr1
 have HC1 := am_ hc1
 clear hr1 hc1
 have H : (impl_decide.l0 k a0 l1 1) = some (r1, r2) := h
 clear h
 have H' := am_ H
 clear H
 go_enter Try.func84, Try.ntmps84
 go_wp2
 go_loopg [6] k (fun kq v6 w' => ∃ (x6_1 : Int), v6 = .int .i64 x6_1 ∧ Aside0 (impl_decide.l0 kq a0 l1 x6_1 = some (r1, r2)) ∧ Aside0 (kq ≤ k) ∧ Drawn0 w w')
 case atStart => exact ⟨(1), y53_, H', ⟨Nat.le_refl _⟩, by repeat (first | exact Drawn0.refl _ | apply Drawn0.step)⟩
 case round =>
  clear H'
  try clear c1
  try clear p2
  obtain ⟨x6_1, rfl, HA, HK1, ⟨m1, rfl⟩⟩ := hrel
  cases gk with
  | zero => exact absurd HA.out (by simp [impl_decide.l0])
  | succ k1 =>
   have H := HA.out
   clear HA
   simp only [impl_decide.l0] at H
   by_cases c3 : x6_1 ≤ a0
   ·rw [if_pos c3] at H
    have c3b0 : decide (x6_1 ≤ a0) = true := decide_eq_true c3
    clear c3
    replace H := Option.bind_eq_some_iff.mp H
    obtain ⟨t486, A40, H⟩ := H
    replace H : (if t486 = true then (impl_decide.l0 k1 a0 l1 (wrap64 (x6_1 + 1))) else ((slices_Contains_int_int.f k1 l1 (wrap64 (-x6_1))).bind fun t487 => (if t487 = true then (impl_decide.l0 k1 a0 l1 (wrap64 (x6_1 + 1))) else (some (x6_1, true))))) = some (r1, r2) := H
    have A4 := am_ A40
    clear A40
    by_cases c5 : t486 = true
    ·subst c5
     have H1 : (impl_decide.l0 k1 a0 l1 (wrap64 (x6_1 + 1))) = some (r1, r2) := by rw [if_pos rfl] at H; exact H
     clear H
     have H := H1
     clear H1
     have H' := am_ H
     clear H
     go_wp2_with (first | ((with_reducible refine gl_ 87 rfl ?_); refine goesM_ (some 14) Try.func87 #[.slice A1 l1.length c1, .int .i64 x6_1] ?_; (with_reducible refine (slices_Contains_int_int.calls k1 _ _ l1 x6_1 true _ ?side1 ?side2 A4.out).mono ?_); (case side1 => exact cm_ HR1.out); (case side2 => exact HC1.out); rintro e w' ⟨rfl, ⟨nd, rfl⟩⟩; refine ⟨_, rfl, ?_⟩))
     go_roundg k1
     case measure => have := HK1.out; omega
     case rel => exact ⟨(wrap64 (x6_1 + 1)), y53_, H', ⟨by have := HK1.out; omega⟩, by repeat (first | exact Drawn0.refl _ | apply Drawn0.step)⟩
    ·replace c5 := Bool.eq_false_iff.mpr c5
     subst c5
     have H1 : ((slices_Contains_int_int.f k1 l1 (wrap64 (-x6_1))).bind fun t487 => (if t487 = true then (impl_decide.l0 k1 a0 l1 (wrap64 (x6_1 + 1))) else (some (x6_1, true)))) = some (r1, r2) := by rw [if_neg (show ¬ (false = true) by decide)] at H; exact H
     clear H
     have H := H1
     clear H1
     replace H := Option.bind_eq_some_iff.mp H
     obtain ⟨t487, A60, H⟩ := H
     replace H : (if t487 = true then (impl_decide.l0 k1 a0 l1 (wrap64 (x6_1 + 1))) else (some (x6_1, true))) = some (r1, r2) := H
     have A6 := am_ A60
     clear A60
     by_cases c7 : t487 = true
     ·subst c7
      have H1 : (impl_decide.l0 k1 a0 l1 (wrap64 (x6_1 + 1))) = some (r1, r2) := by rw [if_pos rfl] at H; exact H
      clear H
      have H := H1
      clear H1
      have H' := am_ H
      clear H
      go_wp2_with (first | ((with_reducible refine gl_ 87 rfl ?_); refine goesM_ (some 14) Try.func87 #[.slice A1 l1.length c1, .int .i64 x6_1] ?_; (with_reducible refine (slices_Contains_int_int.calls k1 _ _ l1 x6_1 false _ ?side1 ?side2 A4.out).mono ?_); (case side1 => exact cm_ HR1.out); (case side2 => exact HC1.out); rintro e w' ⟨rfl, ⟨nd, rfl⟩⟩; refine ⟨_, rfl, ?_⟩) | (go_at_call 87; (with_reducible refine (slices_Contains_int_int.calls k1 _ _ l1 (wrap64 (-x6_1)) true _ ?side1 ?side2 A6.out).mono ?_); (case side1 => exact cm_ HR1.out); (case side2 => exact HC1.out); rintro e w' ⟨rfl, ⟨nd, rfl⟩⟩))
      go_roundg k1
      case measure => have := HK1.out; omega
      case rel => exact ⟨(wrap64 (x6_1 + 1)), y53_, H', ⟨by have := HK1.out; omega⟩, by repeat (first | exact Drawn0.refl _ | apply Drawn0.step)⟩
     ·replace c7 := Bool.eq_false_iff.mpr c7
      subst c7
      have H1 : (some (x6_1, true)) = some (r1, r2) := by rw [if_neg (show ¬ (false = true) by decide)] at H; exact H
      clear H
      have H := H1
      clear H1
      simp only [Option.some.injEq, Prod.mk.injEq] at H
      obtain ⟨rfl, rfl⟩ := H
      go_wp2_with (first | ((with_reducible refine gl_ 87 rfl ?_); refine goesM_ (some 14) Try.func87 #[.slice A1 l1.length c1, .int .i64 x6_1] ?_; (with_reducible refine (slices_Contains_int_int.calls k1 _ _ l1 x6_1 false _ ?side1 ?side2 A4.out).mono ?_); (case side1 => exact cm_ HR1.out); (case side2 => exact HC1.out); rintro e w' ⟨rfl, ⟨nd, rfl⟩⟩; refine ⟨_, rfl, ?_⟩) | (go_at_call 87; (with_reducible refine (slices_Contains_int_int.calls k1 _ _ l1 (wrap64 (-x6_1)) false _ ?side1 ?side2 A6.out).mono ?_); (case side1 => exact cm_ HR1.out); (case side2 => exact HC1.out); rintro e w' ⟨rfl, ⟨nd, rfl⟩⟩))
      go_ret2
      exact ⟨by first | rfl | (simp; done) | (simp [*]; done), by repeat (first | exact Drawn0.refl _ | apply Drawn0.step)⟩
   ·rw [if_neg c3] at H
    have c3b0 : decide (x6_1 ≤ a0) = false := decide_eq_false c3
    clear c3
    simp only [Option.some.injEq, Prod.mk.injEq] at H
    obtain ⟨rfl, rfl⟩ := H
    go_wp2
    go_ret2
    exact ⟨by first | rfl | (simp; done) | (simp [*]; done), by repeat (first | exact Drawn0.refl _ | apply Drawn0.step)⟩
set_option maxHeartbeats 8000000 in
set_option maxRecDepth 100000 in
theorem impl_solve.grow (n : Int) (w : World) (h0 : 0 ≤ n) (hn : n ≤ 1099511627776) :
  Calls Try.prog 94 #[.slice none 0 0, .int .i64 n] w fun e w' => ∃ v, e = .returned v ∧ Kd.N (Kd.slice 3 (Kd.int .i64)) 43 w' w.heap.size (fun _ => True) v [] ∧ Below w.heap.size w w' := by
 have H0 := am_ h0
 have HN := am_ hn
 have b0 : decide (n < 0) = false := decide_eq_false (by omega)
 have e0 : wrap64 n = n := by unfold wrap64; omega
 have HB := am_ (Below.refl w.heap.size w)
 by_cases hp : 0 < n
 ·have b1 : decide (0 < wrap64 n) = true := decide_eq_true (by rw [e0]; exact hp)
  have HP := am_ (show 0 ≤ wrap64 n ∧ (wrap64 n).toNat ≤ 1099511627776 from by rw [e0]; omega)
  clear h0 hn hp e0
  obtain ⟨i043, hi043, hz043, hsz043, hby043⟩ := info_parts info43
  have hs0 := fun (A : Option Addr) (n c : Nat) (hc : n ≤ c) => cut_to (P := Try.prog) 24 43 .i64 Try.underlying24 hi043 A n c 0 (Int.le_refl _) (by omega) hc
  have hs1 := hs0 none 0 0 (Nat.le_refl _)
  have HS := am_ hs0
  clear hi043 hz043 hsz043 hby043 hs0
  go_enter Try.func94, Try.ntmps94
  go_wp2_with ((with_reducible refine gate_builtin (b := .append) (xs := #[.tmp 20, .tmp 21]) rfl ?_); at_builtin; refine Kd.R_append_zeros (Kd.slice 3 (Kd.int .i64)) (w0 := w) w.heap.size rfl (.tmp 20) (.tmp 21) 24 3 43 (.slice none 0 0) 24 rfl Try.underlying24 Try.underlying3 info43 rfl (by decide) (by omega) (.slice none 0 0) [] [] (wrap64 n) (fun _ => True) rfl rfl ?aZ (fun _ _ => trivial) (Kd.R_nil _ _ _ _ _) HP.out.1 ?aB ?aS ?aL ?_; (case aZ => exact Kd.M_row (Kd.R_nil _ _ _ _ _)); (case aB => exact (bq_)); (case aS => exact (below_size (bq_))); (case aL => have := HP.out; simp only [List.length_nil]; omega); intro v22 w5 ho hb hg hat; rw [List.nil_append] at ho; obtain ⟨A22, c22, e22⟩ := Kd.R_slice ho; subst e22; have hs2 := HS.out A22 (List.replicate (wrap64 n).toNat ([] : List Int)).length c22 (Kd.R_reads' ho).2.1; have HO := am_ ho; replace HB := am_ hb; clear ho hb hg hat)
  go_ret
  exact ⟨_, rfl, Kd.R_N (by have n_ := Kd.R_take (m := 0) HO.out (Nat.zero_le _); rw [List.take_zero] at n_; exact n_), bq_⟩
 ·have b1 : decide (0 < n) = false := decide_eq_false hp
  clear h0 hn hp
  go_enter Try.func94, Try.ntmps94
  go_wp2
  go_ret
  exact ⟨_, rfl, Kd.N_nil _ _ _ _ _, bq_⟩
def impl_solve.T (l1 l2 : List (List Int)) (i : Int) : List (List Int) := if i = 0 then [] else if i = 1 then l1 else l1 ++ l2
theorem impl_solve.T_le (l1 l2 : List (List Int)) (i : Int) : (impl_solve.T l1 l2 i).length ≤ l1.length + l2.length := by
 unfold impl_solve.T
 split
 ·exact Nat.zero_le _
 ·split
  ·exact Nat.le_add_right _ _
  ·rw [List.length_append]; exact Nat.le_refl _
theorem impl_solve.two {l1 l2 : List (List Int)} {B : Nat} {A1 A2 : Option Addr} {c1 c2 : Nat} {w : World} (hc1 : w.cell? ⟨B, 0, none⟩ = some (.slice A1 l1.length c1)) (hc2 : w.cell? ⟨B, 1, none⟩ = some (.slice A2 l2.length c2)) (h1 : Kd.C (Kd.slice 3 (Kd.int .i64)) w A1 l1.length l1) (h2 : Kd.C (Kd.slice 3 (Kd.int .i64)) w A2 l2.length l2) (i : Int) (i0 : 0 ≤ i) (i1 : i < 2) :
  ∃ A c li, w.cell? ⟨B, i.toNat, none⟩ = some (.slice A (li : List (List Int)).length c) ∧ Kd.C (Kd.slice 3 (Kd.int .i64)) w A li.length li ∧ impl_solve.T l1 l2 (i + 1) = impl_solve.T l1 l2 i ++ li ∧ li.length ≤ l1.length + l2.length := by
 rcases (show i = 0 ∨ i = 1 by omega) with rfl | rfl
 ·exact ⟨A1, c1, l1, hc1, h1, rfl, Nat.le_add_right _ _⟩
 ·exact ⟨A2, c2, l2, hc2, h2, rfl, Nat.le_add_left _ _⟩
set_option maxHeartbeats 8000000 in
set_option maxRecDepth 100000 in
theorem impl_solve.cat (B : Nat) (A1 A2 : Option Addr) (c1 c2 : Nat) (l1 l2 : List (List Int)) (w : World) (hc1 : w.cell? ⟨B, 0, none⟩ = some (.slice A1 l1.length c1)) (hc2 : w.cell? ⟨B, 1, none⟩ = some (.slice A2 l2.length c2)) (h1 : Kd.C (Kd.slice 3 (Kd.int .i64)) w A1 l1.length l1) (h2 : Kd.C (Kd.slice 3 (Kd.int .i64)) w A2 l2.length l2) (hl : l1.length + l2.length ≤ 1099511627776) :
  Calls Try.prog 82 #[.slice (some ⟨B, 0, none⟩) 2 2] w fun e w' => ∃ v, e = .returned v ∧ Kd.N (Kd.slice 3 (Kd.int .i64)) 43 w' w.heap.size (fun _ => True) v (l1 ++ l2) ∧ Below w.heap.size w w' := by
 have HX := am_ (impl_solve.two hc1 hc2 h1 h2)
 have HL := am_ hl
 have HB := am_ (Below.refl w.heap.size w)
 clear hc1 hc2 h1 h2 hl
 have eg := fun args w => enters_ (P := Try.prog) Try.func94 (by kernel_rfl) rfl args w
 go_enter Try.func82, Try.ntmps82
 go_wp2
 go_loopg [3, 11] 2 (fun g v3 v11 w' => ∃ (s i : Int), v3 = .int .i64 s ∧ v11 = .int .i64 i ∧ Aside0 (0 ≤ i ∧ i ≤ 2 ∧ s = ((impl_solve.T l1 l2 i).length : Int)) ∧ Aside0 (2 - i.toNat ≤ g) ∧ Aside0 (Below w.heap.size w w'))
 case atStart => exact ⟨0, 0, rfl, y53_, ⟨Int.le_refl _, by decide, rfl⟩, ⟨Nat.le_refl _⟩, ⟨bq_⟩⟩
 case round =>
  clear HB
  obtain ⟨s, i, rfl, rfl, HI, HG, HB⟩ := hrel
  by_cases c : i < 2
  ·have cb : decide (i < 2) = true := decide_eq_true c
   obtain ⟨i0, i2, hs⟩ := HI.out
   obtain ⟨A, ci, li, hx, hC, hT, hli⟩ := HX.out i i0 c
   replace hx := (HB.out.cell (World.block_lt_of_cell? w _ hx)).trans hx
   have hb : 0 ≤ s ∧ s ≤ 1099511627776 := by have := impl_solve.T_le l1 l2 i; have := HL.out; omega
   have hb2 := HL.out
   have b0 : decide (wrap64 (s + (li.length : Int)) < 0) = false := decide_eq_false (by unfold wrap64; omega)
   have p1 := eq_true i0
   have p2 := eq_true c
   have HN := am_ (show wrap64 (i + 1) = i + 1 ∧ wrap64 (s + (li.length : Int)) = ((impl_solve.T l1 l2 (i + 1)).length : Int) ∧ 0 ≤ i ∧ i < 2 from ⟨by unfold wrap64; omega, by rw [hT, List.length_append]; unfold wrap64; omega, i0, c⟩)
   clear c i0 i2 hs hC hT hli hb hb2 HI
   go_wp2
   go_roundg (2 - (i.toNat + 1))
   case measure => have := HG.out; have := HN.out; omega
   case rel =>
    obtain ⟨n1, n2, n3, n4⟩ := HN.out
    refine ⟨wrap64 (s + (li.length : Int)), wrap64 (i + 1), y53_, y53_, ⟨?_⟩, ⟨?_⟩, ⟨bq_⟩⟩
    ·rw [n1]; exact ⟨by omega, by omega, n2⟩
    ·rw [n1]; omega
  ·have cb : decide (i < 2) = false := decide_eq_false c
   have hi : i = 2 := by have := HI.out; omega
   have hs : s = ((l1 ++ l2).length : Int) := by have h_ := HI.out.2.2; rw [hi] at h_; exact h_
   have HS := am_ (show 0 ≤ s ∧ s ≤ 1099511627776 from by have := HL.out; rw [List.length_append] at hs; omega)
   clear c hs HI
   go_wp2_with (go_at_call 94; refine (impl_solve.grow s _ HS.out.1 HS.out.2).mono ?_; rintro e w5 ⟨vg, rfl, ho, hb⟩; have HO := am_ (Kd.N_lower ho (below_size (bq_))); replace HB := bs_ hb; clear ho hb)
   go_loopg [6, 27] 2 (fun g v6 v27 w' => ∃ (i : Int), v27 = .int .i64 i ∧ Aside0 (0 ≤ i ∧ i ≤ 2) ∧ Aside0 (2 - i.toNat ≤ g) ∧ Aside0 (Kd.N (Kd.slice 3 (Kd.int .i64)) 43 w' w.heap.size (fun _ => True) v6 (impl_solve.T l1 l2 i)) ∧ Aside0 (Below w.heap.size w w'))
   case atStart => exact ⟨0, y53_, ⟨Int.le_refl _, by decide⟩, ⟨Nat.le_refl _⟩, ⟨y49_⟩, ⟨bq_⟩⟩
   case round =>
    clear HB HO hi
    obtain ⟨j, rfl, HJ, HG2, HO, HB⟩ := hrel
    by_cases c2 : j < 2
    ·have cb2 : decide (j < 2) = true := decide_eq_true c2
     obtain ⟨i0, i2⟩ := HJ.out
     obtain ⟨A, ci, li, hx, hC, hT, hli⟩ := HX.out j i0 c2
     replace hx := (HB.out.cell (World.block_lt_of_cell? w _ hx)).trans hx
     have p1 := eq_true i0
     have p2 := eq_true c2
     have HF := am_ (Kd.F_below (Kd.C_F (Kd.heap_slice 3 (Kd.heap_int .i64)) hC) HB.out)
     have HN := am_ (show wrap64 (j + 1) = j + 1 ∧ 0 ≤ j ∧ j < 2 ∧ ((impl_solve.T l1 l2 j).length + li.length) * 24 ≤ 140737488355328 from ⟨by unfold wrap64; omega, i0, c2, by have := impl_solve.T_le l1 l2 j; have := HL.out; omega⟩)
     have HTT := am_ hT
     clear c2 i0 i2 hC hT hli HJ
     go_wp2_with ((with_reducible refine gate_builtin (b := .append) (xs := #[.tmp 31, .tmp 32]) rfl ?_); at_builtin; refine Kd.N_append_rows (Kd.slice 3 (Kd.int .i64)) (w0 := w) w.heap.size rfl (.tmp 31) (.tmp 32) 24 43 (.slice none 0 0) 24 rfl Try.underlying24 info43 rfl (by decide) (by omega) u6 (impl_solve.T l1 l2 j) li A li.length ci (fun _ => True) (fun k => k < w.heap.size) rfl rfl ?aO ?aR ?aK (fun _ _ => trivial) ?aB ?aS HN.out.2.2.2 ?_; (case aO => exact y49_); (case aR => exact HF.out); (case aK => exact (fun k hk => ⟨trivial, fun e => Nat.lt_irrefl _ (Nat.lt_of_lt_of_le hk (Kd.N_base HO.out k e.symm))⟩)); (case aB => exact (bq_)); (case aS => exact (below_size (bq_))); intro v33 w6 ho hb hg hat; rw [← HTT.out] at ho; replace HB := am_ hb; replace HO := am_ ho; clear ho hb hg hat)
     go_roundg (2 - (j.toNat + 1))
     case measure => have := HG2.out; have := HN.out; omega
     case rel =>
      obtain ⟨n1, n2, n3, _⟩ := HN.out
      refine ⟨wrap64 (j + 1), y53_, ⟨?_⟩, ⟨?_⟩, ⟨?_⟩, ⟨bq_⟩⟩
      ·rw [n1]; exact ⟨by omega, by omega⟩
      ·rw [n1]; omega
      ·rw [n1]; exact y49_
    ·have cb2 : decide (j < 2) = false := decide_eq_false c2
     have hj : j = 2 := by have := HJ.out; omega
     have HE := am_ (show impl_solve.T l1 l2 j = l1 ++ l2 from by rw [hj]; rfl)
     clear c2 hj HJ
     go_wp2
     go_ret
     exact ⟨_, rfl, by rw [← HE.out]; exact y49_, bq_⟩
theorem impl_solve.litq {P : Program} {ops : Array Oper} {rest : List Oper} {o : Oper} {a : Act} {Q : Exit → Act → World → Prop} {W : World} {N : Tmp} {n : Nat} {cs : Array Value} {t : TypeId}
  (h : ∀ g, g = W.heap.size → ∀ w1, w1.heap[g]? = some (.cells cs t (0, 0)) → Below W.heap.size W w1 → wpList P ops Q rest (a.put o.dst (.slice (some ⟨g, 0, none⟩) n n)) w1)
  (hgd : o.guard = none := by rfl) (hd : o.dst = some N := by rfl)
  (hrun : (execOp a.eval o).run P W = .ok (.value (.slice (some ⟨W.heap.size, 0, none⟩) n n)) (W.alloc (.cells cs t (0, 0))) := by first | (go_simp; done) | (go_simp; rfl)) : wpList P ops Q (o :: rest) a W :=
 Kd.event_run hgd hrun (h _ rfl _ (blk_new W _) (below_alloc (Below.refl _ _) _))
def impl_solve.m0 : List Int → List Bool → Option (List Bool)
 | [], o => some o
 | x :: t, o => (impl_variable.f x).bind fun v => if 0 ≤ wrap64 (v - 1) then (if wrap64 (v - 1) < (o.length : Int) then impl_solve.m0 t (o.set (wrap64 (v - 1)).toNat (decide (0 < x))) else none) else none
def impl_solve.ok (l : List (List Int)) (d : List Int) (L : List (List Int)) : Bool := decide (d.length < 1099511627776) && decide (l.length + L.length ≤ 1099511627776)
def impl_solve.l0 : Nat → Int → List (List Int) → List Int → List (List Int) → Option (Bool × List Bool × List (List Int) × Bool)
 | 0, _, _, _, _ => none
 | k + 1, n, l, d, L => if impl_solve.ok l d L = true then ((impl_propagate.f k (l ++ L) d).bind fun q =>
   if q.2 = true then ((impl_learn.f k d).bind fun c => if 300 < ((L ++ [c]).length : Int) then some (false, [], [], false) else (if d.length = 0 then some (false, [], L ++ [c], true) else impl_solve.l0 k n l (d.take (wrap64 ((d.length : Int) - 1)).toNat) (L ++ [c])))
   else ((impl_decide.f k n q.1).bind fun v => if v.2 = true then impl_solve.l0 k n l (d ++ [v.1]) L
    else (if 0 ≤ n then (if n ≤ 1099511627776 then ((impl_solve.m0 q.1 (List.replicate n.toNat false)).bind fun m => some (true, m, L, true)) else none) else none))) else none
def impl_solve.f (k : Nat) (a0 : Int) (l1 : List (List Int)) : Option (Bool × List Bool × List (List Int) × Bool) := impl_solve.l0 k a0 l1 [] []
theorem impl_solve.blk (A : Option Addr) (n m c : Nat) : (Value.slice A n c).ownBlock = (Value.slice A m c).ownBlock := by cases A <;> rfl
theorem impl_solve.dropI {l : List Int} {i : Int} (h0 : 0 ≤ i) (h1 : i < (l.length : Int)) : l.drop i.toNat = rd l i :: l.drop (i.toNat + 1) := by
 have hi : i.toNat < l.length := by omega
 rw [List.drop_eq_getElem_cons hi]
 congr 1
 unfold rd
 rw [List.getD_eq_getElem?_getD, List.getElem?_eq_getElem hi]; rfl
set_option maxHeartbeats 8000000 in
set_option maxRecDepth 100000 in
theorem impl_solve.calls (k : Nat) (a0 : Int) (A0 : Option Addr) (c0 : Nat) (l0 : List (List Int)) (r1 : Bool) (r2 : List Bool) (r3 : List (List Int)) (r4 : Bool) (w : World) (hr0 : Kd.C (Kd.slice 3 (Kd.int .i64)) w A0 l0.length l0) (hc0 : l0.length ≤ c0) (h : impl_solve.f k a0 l0 = some (r1, r2, r3, r4)) :
  Calls Try.prog 63 #[.int .i64 a0, .slice A0 l0.length c0] w fun e w' => ∃ v1_ v2_ : Value, e = .returned (.tuple #[.bool r1, v1_, v2_, .bool r4]) ∧ Kd.R Kd.bool 4 w' w.heap.size (fun _ => True) v1_ r2 ∧ Kd.S (Kd.slice 3 (Kd.int .i64)) 43 w' w.heap.size (fun _ => True) v2_ r3 ∧ Below w.heap.size w w' := by
 have H' := am_ (show impl_solve.l0 k a0 l0 [] [] = some (r1, r2, r3, r4) from h)
 have HR0 := am_ hr0
 have HB := am_ (Below.refl w.heap.size w)
 clear h hr0 hc0
 have eg0 := fun args w => enters_ (P := Try.prog) Try.func82 (by kernel_rfl) rfl args w
 have eg1 := fun args w => enters_ (P := Try.prog) Try.func60 (by kernel_rfl) rfl args w
 have eg2 := fun args w => enters_ (P := Try.prog) Try.func83 (by kernel_rfl) rfl args w
 have eg3 := fun args w => enters_ (P := Try.prog) Try.func84 (by kernel_rfl) rfl args w
 have eg4 := fun args w => enters_ (P := Try.prog) Try.func78 (by kernel_rfl) rfl args w
 go_enter Try.func63, Try.ntmps63
 go_wp2
 go_loopg [8, 9] k (fun kq v8 v9 w' => ∃ (d : List Int) (L : List (List Int)), Aside0 (impl_solve.l0 kq a0 l0 d L = some (r1, r2, r3, r4)) ∧ Aside0 (kq ≤ k) ∧ Aside0 (Kd.R (Kd.int .i64) 3 w' w.heap.size (fun _ => True) v8 d) ∧ Aside0 (Kd.S (Kd.slice 3 (Kd.int .i64)) 43 w' w.heap.size (fun k => some k ≠ v8.ownBlock) v9 L) ∧ Aside0 (Below w.heap.size w w'))
 case atStart => exact ⟨[], [], H', ⟨Nat.le_refl _⟩, ⟨Kd.R_nil _ _ _ _ _⟩, ⟨Kd.S_nil _ _ _ _ _⟩, ⟨bq_⟩⟩
 case round =>
  clear H' HB
  obtain ⟨d, L, HA, HK1, HO, HS, HB⟩ := hrel
  cases gk with
  | zero => exact absurd HA.out (by simp [impl_solve.l0])
  | succ k1 =>
   have H := HA.out
   clear HA
   simp only [impl_solve.l0] at H
   by_cases cok : impl_solve.ok l0 d L = true
   ·rw [if_pos cok] at H
    have HL := am_ (show d.length < 1099511627776 ∧ l0.length + L.length ≤ 1099511627776 from by
     simp only [impl_solve.ok, Bool.and_eq_true, decide_eq_true_eq] at cok
     exact cok)
    clear cok
    obtain ⟨Ad, cd, ed⟩ := Kd.R_slice HO.out
    subst ed
    obtain ⟨AL, cL, eL⟩ := Kd.S_slice HS.out
    subst eL
    obtain ⟨z, hz⟩ : ∃ z, z = l0 ++ L := ⟨_, rfl⟩
    rw [← hz] at H
    have NZ := am_ hz
    clear hz
    obtain ⟨⟨q1, q2⟩, A50, H⟩ := Option.bind_eq_some_iff.mp H
    have A5 := am_ A50
    clear A50
    cases q2 with
    | true =>
     rw [if_pos rfl] at H
     obtain ⟨c, A60, H⟩ := Option.bind_eq_some_iff.mp H
     have A6 := am_ A60
     clear A60
     obtain ⟨y, hy⟩ : ∃ y, y = L ++ [c] := ⟨_, rfl⟩
     rw [← hy] at H
     have NY := am_ hy
     clear hy
     by_cases c3 : 300 < (y.length : Int)
     ·rw [if_pos c3] at H
      have c3b : decide (300 < (y.length : Int)) = true := decide_eq_true c3
      obtain ⟨e1, e2⟩ := Prod.mk.inj (Option.some.inj H)
      obtain ⟨e2, e3⟩ := Prod.mk.inj e2
      obtain ⟨e3, e4⟩ := Prod.mk.inj e3
      subst e1; subst e2; subst e3; subst e4
      clear c3 H
      go_wp2_with (first | ((with_reducible refine gate_dst (N := 20) rfl ?_); refine impl_solve.litq (N := 20) (n := 2) (cs := #[.slice A0 l0.length c0, .slice AL L.length cL]) (t := 24) ?_; intro gb hg w27 hbox hb; have BK := am_ hbox; clear hg hbox; replace HB := bs_ hb; replace HO := am_ (Kd.R_below (rq_ HO.out) hb); replace HS := am_ (Kd.S_below (sq_ HS.out) hb); clear hb) | (go_at_call 82; refine (impl_solve.cat gb A0 AL c0 cL l0 L _ (cq_ BK.out 0 (.slice A0 l0.length c0)) (cq_ BK.out 1 (.slice AL L.length cL)) (Kd.C_below HR0.out HB.out) (Kd.S_reads' HS.out).2.2 HL.out.2).mono ?_; rintro e w28 ⟨vn, rfl, hn, hb⟩; rw [← NZ.out] at hn; obtain ⟨An, cn, en⟩ := Kd.N_slice hn; subst en; have HNN := am_ (Kd.N_reads' hn); clear hn; replace HB := bs_ hb; replace HO := am_ (Kd.R_below (rq_ HO.out) hb); replace HS := am_ (Kd.S_below (sq_ HS.out) hb); clear hb) | (go_at_call 60; refine (impl_propagate.calls k1 An cn z Ad cd d q1 true _ HNN.out.2.2 HNN.out.2.1 (Kd.R_reads' HO.out).2.2 (Kd.R_reads' HO.out).2.1 A5.out).mono ?_; rintro e w29 ⟨vo, rfl, ho, hb⟩; obtain ⟨Ao, co, eo⟩ := Kd.R_slice ho; subst eo; have HQ := am_ (Kd.R_lower ho (below_size (bq_))); clear ho; replace HB := bs_ hb; replace HO := am_ (Kd.R_below (rq_ HO.out) hb); replace HS := am_ (Kd.S_below (sq_ HS.out) hb); clear hb) | (go_at_call 83; refine (impl_learn.calls k1 Ad cd d c _ (Kd.R_reads' (rq_ HO.out)).2.2 (Kd.R_reads' HO.out).2.1 A6.out).mono ?_; rintro e w30 ⟨vc, rfl, hc, hb⟩; obtain ⟨Ac, cc, ec⟩ := Kd.R_slice hc; subst ec; have HC := am_ (Kd.R_lower hc (below_size (bq_))); have HX := am_ (show ∀ k, some k = (Value.slice Ac c.length cc).ownBlock → (some k ≠ (Value.slice Ad d.length cd).ownBlock ∧ some k ≠ (Value.slice AL L.length cL).ownBlock) from fun k hk => ⟨fun e_ => Nat.lt_irrefl _ (Nat.lt_of_lt_of_le (Kd.R_lt (rq_ HO.out) k e_.symm) (Kd.R_base hc k hk.symm)), fun e_ => Nat.lt_irrefl _ (Nat.lt_of_lt_of_le (Kd.S_lt (sq_ HS.out) k e_.symm) (Kd.R_base hc k hk.symm))⟩); have HT := am_ (Kd.S_mono (ok' := fun k => some k ≠ (Value.slice Ad d.length cd).ownBlock ∧ ¬ some k = (Value.slice Ac c.length cc).ownBlock) (Kd.S_old (sq_ HS.out) hb) (fun k hk => ⟨hk.1, fun e_ => Nat.lt_irrefl _ (Nat.lt_of_lt_of_le hk.2 (Kd.R_base hc k e_.symm))⟩)); have n0_ := bs_ hb; have n1_ := am_ (Kd.R_below (rq_ HO.out) hb); clear HB HO HS hc hb; have HB := n0_; have HO := n1_; have HS := HT; clear n0_ n1_ HT) | ((with_reducible refine gate_builtin (b := .append) (xs := #[.tmp 27, .tmp 30]) rfl ?_); at_builtin; refine Kd.S_append (Kd.slice 3 (Kd.int .i64)) (w0 := w) w.heap.size rfl (.tmp 27) (.tmp 30) 24 43 (.slice none 0 0) 24 rfl Try.underlying24 info43 rfl (by decide) (by omega) (.slice AL L.length cL) L c [.slice Ac c.length cc] (fun k => some k ≠ (Value.slice Ad d.length cd).ownBlock) (fun k => some k = (Value.slice Ac c.length cc).ownBlock) rfl rfl ?aP HX.out ?aF ?aO ?aB ?aS ?aL ?_; (case aP => exact Kd.M_row (Kd.R_tight rfl (rq_ HC.out))); (case aB => exact (bq_)); (case aF => exact (fun k hk e_ => Nat.lt_irrefl _ (Nat.lt_of_lt_of_le (Kd.R_lt (rq_ HO.out) k e_.symm) hk))); (case aO => exact (sq_ HS.out)); (case aS => exact (below_size (bq_))); (case aL => have := HL.out; omega); intro v31 w31 ho hb hg hat; rw [← NY.out] at ho; replace HB := am_ hb; replace HO := am_ (Kd.R_over' (rq_ HO.out) (Kd.S_typed (sq_ HS.out)) (by decide) hg); clear HS; obtain ⟨AY, cY, eY⟩ := Kd.S_slice ho; subst eY; have HS := am_ ho; clear ho hb hg hat))
      refine bodyPost_ret (results_list (rs := [.tmp 4, .tmp 5, .tmp 6, .tmp 7]) rfl (by simp) (.tmp (.tmp (.tmp (.tmp .nil))))) rfl ?_
      exact ⟨_, _, rfl, Kd.R_nil _ _ _ _ _, Kd.S_nil _ _ _ _ _, bq_⟩
     ·rw [if_neg c3] at H
      have c3b : decide (300 < (y.length : Int)) = false := decide_eq_false c3
      clear c3
      by_cases c4 : d.length = 0
      ·rw [if_pos c4] at H
       have c4b : ((d.length : Int) == 0) = true := beq_iff_eq.mpr (by omega)
       obtain ⟨e1, e2⟩ := Prod.mk.inj (Option.some.inj H)
       obtain ⟨e2, e3⟩ := Prod.mk.inj e2
       obtain ⟨e3, e4⟩ := Prod.mk.inj e3
       subst e1; subst e2; subst e3; subst e4
       clear c4 H
       go_wp2_with (first | ((with_reducible refine gate_dst (N := 20) rfl ?_); refine impl_solve.litq (N := 20) (n := 2) (cs := #[.slice A0 l0.length c0, .slice AL L.length cL]) (t := 24) ?_; intro gb hg w27 hbox hb; have BK := am_ hbox; clear hg hbox; replace HB := bs_ hb; replace HO := am_ (Kd.R_below (rq_ HO.out) hb); replace HS := am_ (Kd.S_below (sq_ HS.out) hb); clear hb) | (go_at_call 82; refine (impl_solve.cat gb A0 AL c0 cL l0 L _ (cq_ BK.out 0 (.slice A0 l0.length c0)) (cq_ BK.out 1 (.slice AL L.length cL)) (Kd.C_below HR0.out HB.out) (Kd.S_reads' HS.out).2.2 HL.out.2).mono ?_; rintro e w28 ⟨vn, rfl, hn, hb⟩; rw [← NZ.out] at hn; obtain ⟨An, cn, en⟩ := Kd.N_slice hn; subst en; have HNN := am_ (Kd.N_reads' hn); clear hn; replace HB := bs_ hb; replace HO := am_ (Kd.R_below (rq_ HO.out) hb); replace HS := am_ (Kd.S_below (sq_ HS.out) hb); clear hb) | (go_at_call 60; refine (impl_propagate.calls k1 An cn z Ad cd d q1 true _ HNN.out.2.2 HNN.out.2.1 (Kd.R_reads' HO.out).2.2 (Kd.R_reads' HO.out).2.1 A5.out).mono ?_; rintro e w29 ⟨vo, rfl, ho, hb⟩; obtain ⟨Ao, co, eo⟩ := Kd.R_slice ho; subst eo; have HQ := am_ (Kd.R_lower ho (below_size (bq_))); clear ho; replace HB := bs_ hb; replace HO := am_ (Kd.R_below (rq_ HO.out) hb); replace HS := am_ (Kd.S_below (sq_ HS.out) hb); clear hb) | (go_at_call 83; refine (impl_learn.calls k1 Ad cd d c _ (Kd.R_reads' (rq_ HO.out)).2.2 (Kd.R_reads' HO.out).2.1 A6.out).mono ?_; rintro e w30 ⟨vc, rfl, hc, hb⟩; obtain ⟨Ac, cc, ec⟩ := Kd.R_slice hc; subst ec; have HC := am_ (Kd.R_lower hc (below_size (bq_))); have HX := am_ (show ∀ k, some k = (Value.slice Ac c.length cc).ownBlock → (some k ≠ (Value.slice Ad d.length cd).ownBlock ∧ some k ≠ (Value.slice AL L.length cL).ownBlock) from fun k hk => ⟨fun e_ => Nat.lt_irrefl _ (Nat.lt_of_lt_of_le (Kd.R_lt (rq_ HO.out) k e_.symm) (Kd.R_base hc k hk.symm)), fun e_ => Nat.lt_irrefl _ (Nat.lt_of_lt_of_le (Kd.S_lt (sq_ HS.out) k e_.symm) (Kd.R_base hc k hk.symm))⟩); have HT := am_ (Kd.S_mono (ok' := fun k => some k ≠ (Value.slice Ad d.length cd).ownBlock ∧ ¬ some k = (Value.slice Ac c.length cc).ownBlock) (Kd.S_old (sq_ HS.out) hb) (fun k hk => ⟨hk.1, fun e_ => Nat.lt_irrefl _ (Nat.lt_of_lt_of_le hk.2 (Kd.R_base hc k e_.symm))⟩)); have n0_ := bs_ hb; have n1_ := am_ (Kd.R_below (rq_ HO.out) hb); clear HB HO HS hc hb; have HB := n0_; have HO := n1_; have HS := HT; clear n0_ n1_ HT) | ((with_reducible refine gate_builtin (b := .append) (xs := #[.tmp 27, .tmp 30]) rfl ?_); at_builtin; refine Kd.S_append (Kd.slice 3 (Kd.int .i64)) (w0 := w) w.heap.size rfl (.tmp 27) (.tmp 30) 24 43 (.slice none 0 0) 24 rfl Try.underlying24 info43 rfl (by decide) (by omega) (.slice AL L.length cL) L c [.slice Ac c.length cc] (fun k => some k ≠ (Value.slice Ad d.length cd).ownBlock) (fun k => some k = (Value.slice Ac c.length cc).ownBlock) rfl rfl ?aP HX.out ?aF ?aO ?aB ?aS ?aL ?_; (case aP => exact Kd.M_row (Kd.R_tight rfl (rq_ HC.out))); (case aB => exact (bq_)); (case aF => exact (fun k hk e_ => Nat.lt_irrefl _ (Nat.lt_of_lt_of_le (Kd.R_lt (rq_ HO.out) k e_.symm) hk))); (case aO => exact (sq_ HS.out)); (case aS => exact (below_size (bq_))); (case aL => have := HL.out; omega); intro v31 w31 ho hb hg hat; rw [← NY.out] at ho; replace HB := am_ hb; replace HO := am_ (Kd.R_over' (rq_ HO.out) (Kd.S_typed (sq_ HS.out)) (by decide) hg); clear HS; obtain ⟨AY, cY, eY⟩ := Kd.S_slice ho; subst eY; have HS := am_ ho; clear ho hb hg hat))
       refine bodyPost_ret (results_list (rs := [.tmp 4, .tmp 5, .tmp 6, .tmp 7]) rfl (by simp) (.tmp (.tmp (.tmp (.tmp .nil))))) rfl ?_
       exact ⟨_, _, rfl, Kd.R_nil _ _ _ _ _, Kd.S_mono (sq_ HS.out) (fun _ _ => trivial), bq_⟩
      ·rw [if_neg c4] at H
       have H' := am_ H
       have c4b : ((d.length : Int) == 0) = false := beq_eq_false_iff_ne.mpr (by omega)
       have hwr : wrap64 ((d.length : Int) - 1) = (d.length : Int) - 1 := by have := HL.out; unfold wrap64; omega
       obtain ⟨i03, hi03, hz03, hsz03, hby03⟩ := info_parts info3
       have hcut := cut_to (P := Try.prog) 43 3 .i64 Try.underlying43 hi03 Ad d.length cd (wrap64 ((d.length : Int) - 1)) (by omega) (by omega) (Kd.R_reads' HO.out).2.1
       have HJ := am_ (show (wrap64 ((d.length : Int) - 1)).toNat ≤ d.length from by omega)
       clear c4 H hwr hi03 hz03 hsz03 hby03
       go_wp2_with (first | ((with_reducible refine gate_dst (N := 20) rfl ?_); refine impl_solve.litq (N := 20) (n := 2) (cs := #[.slice A0 l0.length c0, .slice AL L.length cL]) (t := 24) ?_; intro gb hg w27 hbox hb; have BK := am_ hbox; clear hg hbox; replace HB := bs_ hb; replace HO := am_ (Kd.R_below (rq_ HO.out) hb); replace HS := am_ (Kd.S_below (sq_ HS.out) hb); clear hb) | (go_at_call 82; refine (impl_solve.cat gb A0 AL c0 cL l0 L _ (cq_ BK.out 0 (.slice A0 l0.length c0)) (cq_ BK.out 1 (.slice AL L.length cL)) (Kd.C_below HR0.out HB.out) (Kd.S_reads' HS.out).2.2 HL.out.2).mono ?_; rintro e w28 ⟨vn, rfl, hn, hb⟩; rw [← NZ.out] at hn; obtain ⟨An, cn, en⟩ := Kd.N_slice hn; subst en; have HNN := am_ (Kd.N_reads' hn); clear hn; replace HB := bs_ hb; replace HO := am_ (Kd.R_below (rq_ HO.out) hb); replace HS := am_ (Kd.S_below (sq_ HS.out) hb); clear hb) | (go_at_call 60; refine (impl_propagate.calls k1 An cn z Ad cd d q1 true _ HNN.out.2.2 HNN.out.2.1 (Kd.R_reads' HO.out).2.2 (Kd.R_reads' HO.out).2.1 A5.out).mono ?_; rintro e w29 ⟨vo, rfl, ho, hb⟩; obtain ⟨Ao, co, eo⟩ := Kd.R_slice ho; subst eo; have HQ := am_ (Kd.R_lower ho (below_size (bq_))); clear ho; replace HB := bs_ hb; replace HO := am_ (Kd.R_below (rq_ HO.out) hb); replace HS := am_ (Kd.S_below (sq_ HS.out) hb); clear hb) | (go_at_call 83; refine (impl_learn.calls k1 Ad cd d c _ (Kd.R_reads' (rq_ HO.out)).2.2 (Kd.R_reads' HO.out).2.1 A6.out).mono ?_; rintro e w30 ⟨vc, rfl, hc, hb⟩; obtain ⟨Ac, cc, ec⟩ := Kd.R_slice hc; subst ec; have HC := am_ (Kd.R_lower hc (below_size (bq_))); have HX := am_ (show ∀ k, some k = (Value.slice Ac c.length cc).ownBlock → (some k ≠ (Value.slice Ad d.length cd).ownBlock ∧ some k ≠ (Value.slice AL L.length cL).ownBlock) from fun k hk => ⟨fun e_ => Nat.lt_irrefl _ (Nat.lt_of_lt_of_le (Kd.R_lt (rq_ HO.out) k e_.symm) (Kd.R_base hc k hk.symm)), fun e_ => Nat.lt_irrefl _ (Nat.lt_of_lt_of_le (Kd.S_lt (sq_ HS.out) k e_.symm) (Kd.R_base hc k hk.symm))⟩); have HT := am_ (Kd.S_mono (ok' := fun k => some k ≠ (Value.slice Ad d.length cd).ownBlock ∧ ¬ some k = (Value.slice Ac c.length cc).ownBlock) (Kd.S_old (sq_ HS.out) hb) (fun k hk => ⟨hk.1, fun e_ => Nat.lt_irrefl _ (Nat.lt_of_lt_of_le hk.2 (Kd.R_base hc k e_.symm))⟩)); have n0_ := bs_ hb; have n1_ := am_ (Kd.R_below (rq_ HO.out) hb); clear HB HO HS hc hb; have HB := n0_; have HO := n1_; have HS := HT; clear n0_ n1_ HT) | ((with_reducible refine gate_builtin (b := .append) (xs := #[.tmp 27, .tmp 30]) rfl ?_); at_builtin; refine Kd.S_append (Kd.slice 3 (Kd.int .i64)) (w0 := w) w.heap.size rfl (.tmp 27) (.tmp 30) 24 43 (.slice none 0 0) 24 rfl Try.underlying24 info43 rfl (by decide) (by omega) (.slice AL L.length cL) L c [.slice Ac c.length cc] (fun k => some k ≠ (Value.slice Ad d.length cd).ownBlock) (fun k => some k = (Value.slice Ac c.length cc).ownBlock) rfl rfl ?aP HX.out ?aF ?aO ?aB ?aS ?aL ?_; (case aP => exact Kd.M_row (Kd.R_tight rfl (rq_ HC.out))); (case aB => exact (bq_)); (case aF => exact (fun k hk e_ => Nat.lt_irrefl _ (Nat.lt_of_lt_of_le (Kd.R_lt (rq_ HO.out) k e_.symm) hk))); (case aO => exact (sq_ HS.out)); (case aS => exact (below_size (bq_))); (case aL => have := HL.out; omega); intro v31 w31 ho hb hg hat; rw [← NY.out] at ho; replace HB := am_ hb; replace HO := am_ (Kd.R_over' (rq_ HO.out) (Kd.S_typed (sq_ HS.out)) (by decide) hg); clear HS; obtain ⟨AY, cY, eY⟩ := Kd.S_slice ho; subst eY; have HS := am_ ho; clear ho hb hg hat))
       go_roundg k1
       case measure => have := HK1.out; omega
       case rel => exact ⟨d.take (wrap64 ((d.length : Int) - 1)).toNat, y, H', ⟨by have := HK1.out; omega⟩, ⟨Kd.R_take (rq_ HO.out) HJ.out⟩, ⟨Kd.S_mono (sq_ HS.out) (fun k hk => by rw [impl_solve.blk Ad _ d.length cd]; exact hk)⟩, ⟨bq_⟩⟩
    | false =>
     rw [if_neg (by simp)] at H
     obtain ⟨⟨v1, v2⟩, A60, H⟩ := Option.bind_eq_some_iff.mp H
     have A6 := am_ A60
     clear A60
     cases v2 with
     | true =>
      rw [if_pos rfl] at H
      have H' := am_ H
      clear H
      go_wp2_with (first | ((with_reducible refine gate_dst (N := 20) rfl ?_); refine impl_solve.litq (N := 20) (n := 2) (cs := #[.slice A0 l0.length c0, .slice AL L.length cL]) (t := 24) ?_; intro gb hg w27 hbox hb; have BK := am_ hbox; clear hg hbox; replace HB := bs_ hb; replace HO := am_ (Kd.R_below (rq_ HO.out) hb); replace HS := am_ (Kd.S_below (sq_ HS.out) hb); clear hb) | (go_at_call 82; refine (impl_solve.cat gb A0 AL c0 cL l0 L _ (cq_ BK.out 0 (.slice A0 l0.length c0)) (cq_ BK.out 1 (.slice AL L.length cL)) (Kd.C_below HR0.out HB.out) (Kd.S_reads' HS.out).2.2 HL.out.2).mono ?_; rintro e w28 ⟨vn, rfl, hn, hb⟩; rw [← NZ.out] at hn; obtain ⟨An, cn, en⟩ := Kd.N_slice hn; subst en; have HNN := am_ (Kd.N_reads' hn); clear hn; replace HB := bs_ hb; replace HO := am_ (Kd.R_below (rq_ HO.out) hb); replace HS := am_ (Kd.S_below (sq_ HS.out) hb); clear hb) | (go_at_call 60; refine (impl_propagate.calls k1 An cn z Ad cd d q1 false _ HNN.out.2.2 HNN.out.2.1 (Kd.R_reads' HO.out).2.2 (Kd.R_reads' HO.out).2.1 A5.out).mono ?_; rintro e w29 ⟨vo, rfl, ho, hb⟩; obtain ⟨Ao, co, eo⟩ := Kd.R_slice ho; subst eo; have HQ := am_ (Kd.R_lower ho (below_size (bq_))); clear ho; replace HB := bs_ hb; replace HO := am_ (Kd.R_below (rq_ HO.out) hb); replace HS := am_ (Kd.S_below (sq_ HS.out) hb); clear hb) | (go_at_call 84; refine (impl_decide.calls k1 a0 Ao co q1 v1 true _ (Kd.R_reads' (rq_ HQ.out)).2.2 (Kd.R_reads' HQ.out).2.1 A6.out).mono ?_; rintro e w30 ⟨rfl, ⟨nd, rfl⟩⟩) | ((with_reducible refine gate_builtin (b := .append) (xs := #[.tmp 51, .tmp 53]) rfl ?_); at_builtin; refine Kd.R_append (Kd.int .i64) (w0 := w) w.heap.size rfl (.tmp 51) (.tmp 53) 43 3 (.int .i64 0) 8 rfl Try.underlying43 info3 rfl (by decide) (by omega) (.slice Ad d.length cd) d v1 [.int .i64 v1] (fun _ => True) (fun _ => False) rfl rfl ?aP (fun _ hk => hk.elim) ?aF ?aO ?aB ?aS ?aL ?_; (case aP => exact rfl); (case aB => exact (bq_)); (case aF => exact (fun _ _ => trivial)); (case aO => exact (rq_ HO.out)); (case aS => exact (below_size (bq_))); (case aL => have := HL.out; omega); intro v54 w31 ho hb hg hat; replace HB := am_ hb; replace HO := am_ ho; replace HS := am_ (Kd.S_mono (ok' := fun k => some k ≠ v54.ownBlock) (Kd.S_after (ok := fun _ => True) (Kd.S_mono (sq_ HS.out) (fun k hk => ⟨trivial, hk⟩)) hg hat) (fun _ hk => hk.2)); clear ho hb hg hat))
      go_roundg k1
      case measure => have := HK1.out; omega
      case rel => exact ⟨d ++ [v1], L, H', ⟨by have := HK1.out; omega⟩, ⟨rq_ HO.out⟩, ⟨(sq_ HS.out)⟩, ⟨bq_⟩⟩
     | false =>
      rw [if_neg (by simp)] at H
      by_cases n0 : 0 ≤ a0
      ·rw [if_pos n0] at H
       by_cases n1 : a0 ≤ 1099511627776
       ·rw [if_pos n1] at H
        obtain ⟨z0, hz0⟩ : ∃ z0, z0 = List.replicate a0.toNat false := ⟨_, rfl⟩
        rw [← hz0] at H
        have NM0 := am_ hz0
        clear hz0
        obtain ⟨m, A70, H⟩ := Option.bind_eq_some_iff.mp H
        have A7 := am_ A70
        clear A70
        obtain ⟨e1, e2⟩ := Prod.mk.inj (Option.some.inj H)
        obtain ⟨e2, e3⟩ := Prod.mk.inj e2
        obtain ⟨e3, e4⟩ := Prod.mk.inj e3
        subst e1; subst e2; subst e3; subst e4
        have HN0 := am_ (And.intro n0 n1)
        clear n0 n1 H
        go_wp2_with (first | ((with_reducible refine gate_dst (N := 20) rfl ?_); refine impl_solve.litq (N := 20) (n := 2) (cs := #[.slice A0 l0.length c0, .slice AL L.length cL]) (t := 24) ?_; intro gb hg w27 hbox hb; have BK := am_ hbox; clear hg hbox; replace HB := bs_ hb; replace HO := am_ (Kd.R_below (rq_ HO.out) hb); replace HS := am_ (Kd.S_below (sq_ HS.out) hb); clear hb) | (go_at_call 82; refine (impl_solve.cat gb A0 AL c0 cL l0 L _ (cq_ BK.out 0 (.slice A0 l0.length c0)) (cq_ BK.out 1 (.slice AL L.length cL)) (Kd.C_below HR0.out HB.out) (Kd.S_reads' HS.out).2.2 HL.out.2).mono ?_; rintro e w28 ⟨vn, rfl, hn, hb⟩; rw [← NZ.out] at hn; obtain ⟨An, cn, en⟩ := Kd.N_slice hn; subst en; have HNN := am_ (Kd.N_reads' hn); clear hn; replace HB := bs_ hb; replace HO := am_ (Kd.R_below (rq_ HO.out) hb); replace HS := am_ (Kd.S_below (sq_ HS.out) hb); clear hb) | (go_at_call 60; refine (impl_propagate.calls k1 An cn z Ad cd d q1 false _ HNN.out.2.2 HNN.out.2.1 (Kd.R_reads' HO.out).2.2 (Kd.R_reads' HO.out).2.1 A5.out).mono ?_; rintro e w29 ⟨vo, rfl, ho, hb⟩; obtain ⟨Ao, co, eo⟩ := Kd.R_slice ho; subst eo; have HQ := am_ (Kd.R_lower ho (below_size (bq_))); clear ho; replace HB := bs_ hb; replace HO := am_ (Kd.R_below (rq_ HO.out) hb); replace HS := am_ (Kd.S_below (sq_ HS.out) hb); clear hb) | (go_at_call 84; refine (impl_decide.calls k1 a0 Ao co q1 v1 false _ (Kd.R_reads' (rq_ HQ.out)).2.2 (Kd.R_reads' HQ.out).2.1 A6.out).mono ?_; rintro e w30 ⟨rfl, ⟨nd, rfl⟩⟩) | ((with_reducible refine gate_dst (N := 56) rfl ?_); refine Kd.R_make Kd.bool _ 4 rfl (N := 56) rfl 37 _ _ rfl a0 rfl rfl Try.underlying37 (.bool false) 1 info4 rfl (by decide) (by omega) false (ok := fun _ => True) (okp := fun _ => True) rfl (fun _ hk => hk) trivial HN0.out.1 (by have := HN0.out; omega) (Below.refl _ _) (Nat.le_refl _) ?_; intro v56 w31 ho hb hg_ hnew_; clear hg_ hnew_; rw [← NM0.out] at ho; have HM := am_ (Kd.R_lower ho (below_size (bq_))); have n3_ := am_ (Kd.R_below (rq_ HQ.out) hb); clear HQ; have HQ := n3_; clear n3_ ho; replace HB := bs_ hb; replace HO := am_ (Kd.R_below (rq_ HO.out) hb); replace HS := am_ (Kd.S_below (sq_ HS.out) hb); clear hb; obtain ⟨Am, cm, em⟩ := Kd.R_slice HM.out; subst em))
        go_loopg [59] q1.length (fun g v59 w' => ∃ (i : Int) (o : List Bool), v59 = .int .i64 i ∧ Aside0 (0 ≤ i ∧ i ≤ (q1.length : Int) ∧ impl_solve.m0 (q1.drop i.toNat) o = some m) ∧ Aside0 (q1.length - i.toNat ≤ g) ∧ Aside0 (Kd.R Kd.bool 4 w' w.heap.size (fun _ => True) (.slice Am z0.length cm) o) ∧ Aside0 (Kd.R (Kd.int .i64) 3 w' w.heap.size (fun _ => True) (.slice Ao q1.length co) q1) ∧ Aside0 (Kd.S (Kd.slice 3 (Kd.int .i64)) 43 w' w.heap.size (fun k => some k ≠ (Value.slice Ad d.length cd).ownBlock) (.slice AL L.length cL) L) ∧ Aside0 (Below w.heap.size w w'))
        case atStart => exact ⟨0, _, y53_, ⟨Int.le_refl _, Int.natCast_nonneg _, A7.out⟩, ⟨Nat.le_refl _⟩, ⟨rq_ HM.out⟩, ⟨rq_ HQ.out⟩, ⟨(sq_ HS.out)⟩, ⟨bq_⟩⟩
        case round =>
         clear HB HO HS HM HQ A5 A6 A7 HNN BK NM0
         obtain ⟨i, o, rfl, HI, HG, HM, HQ, HS, HB⟩ := hrel
         by_cases c6 : i < (q1.length : Int)
         ·have c6b0 : decide (i < (q1.length : Int)) = true := decide_eq_true c6
          obtain ⟨i0, i1, hm⟩ := HI.out
          rw [impl_solve.dropI i0 c6, impl_solve.m0] at hm
          obtain ⟨ad, e195, hx195_0⟩ := Kd.at_int (Kd.R_reads' HQ.out).2.2 i i0 c6
          cases e195
          have p102 := eq_true i0
          have q102 := eq_true c6
          have HN := am_ (show wrap64 (i + 1) = i + 1 ∧ 0 ≤ i ∧ i < (q1.length : Int) from ⟨by have := (Kd.R_reads' HQ.out).2.2.2.1; unfold wrap64; omega, i0, c6⟩)
          generalize hxx : rd q1 i = x at hm hx195_0
          obtain ⟨v, A80, hm⟩ := Option.bind_eq_some_iff.mp hm
          have A8 := am_ A80
          clear A80 hxx i1
          by_cases c7 : 0 ≤ wrap64 (v - 1)
          ·rw [if_pos c7] at hm
           by_cases c8 : wrap64 (v - 1) < (o.length : Int)
           ·rw [if_pos c8] at hm
            have hM2 : z0.length = o.length := (Kd.R_reads' HM.out).1
            rw [← hM2] at c8
            obtain ⟨gm, cap, ea, gb2, gl2, cells2, hcells2⟩ := Kd.R_form HM.out (by omega)
            injection ea with ea en ec
            subst ea; subst ec
            clear en
            have GB := am_ gb2
            obtain ⟨hx1, hf1⟩ := Kd.R_celln false HM.out (wrap64 (v - 1)) c7 c8
            have HMM := am_ hm
            have p7 := eq_true c7
            have q7 := eq_true c8
            clear hm hM2 gb2 gl2 hcells2 cells2 c7 c8 c6 i0
            go_wp2_with (first | (go_at_call 78; refine (impl_variable.calls x v _ A8.out).mono ?_; rintro e w' ⟨rfl, ⟨nd2, rfl⟩⟩) | ((with_reducible refine gate_store (t := 4) (p := 69) rfl ?_); refine store_event (t := 4) (p := 69) (v := ?vo_w32) (w1 := ((wr.drewN nd2).setCell ⟨gm, (wrap64 (v - 1)).toNat, none⟩ (.bool (decide (0 < x))))) ?hg ?ho ?hn ?hr ?_; (case ho => rfl); (case hg => rfl); (case hn => rfl); (case hr => first | (go_simp; done) | (go_simp; rfl)); intro w32 hw; have n2_ := Kd.R_putg (Kd.R_drewN HM.out nd2) (wrap64 (v - 1)) (decide (0 < x)); rw [← hw] at n2_; have n0_ := am_ (show Below w.heap.size w w32 from (by rw [hw]; exact below_set (pw_below_drewN HB.out nd2) GB.out)); have n4_ := am_ (Kd.R_over' (v := .slice (some ⟨gm, 0, none⟩) z0.length cm) (Kd.R_drewN HQ.out nd2) (Kd.R_typed (Kd.R_drewN HM.out nd2)) (by decide) n2_.2); have n5_ := am_ (Kd.S_over' (v := .slice (some ⟨gm, 0, none⟩) z0.length cm) (Kd.S_drewN HS.out nd2) (Kd.R_typed (Kd.R_drewN HM.out nd2)) (by decide) n2_.2); have n1_ := am_ n2_.1; clear hw n2_ HB HM HQ HS hx1 hf1; have HB := n0_; have HM := n1_; have HQ := n4_; have HS := n5_; clear n0_ n1_ n4_ n5_))
            go_roundg (q1.length - (i.toNat + 1))
            case measure => have := HG.out; have := HN.out; omega
            case rel =>
             obtain ⟨n1, n2, n3⟩ := HN.out
             refine ⟨wrap64 (i + 1), o.set (wrap64 (v - 1)).toNat (decide (0 < x)), y53_, ⟨?_⟩, ⟨?_⟩, ⟨rq_ HM.out⟩, ⟨rq_ HQ.out⟩, ⟨(sq_ HS.out)⟩, ⟨bq_⟩⟩
             ·rw [n1, show (i + 1).toNat = i.toNat + 1 by omega]; exact ⟨by omega, by omega, HMM.out⟩
             ·rw [n1]; omega
           ·rw [if_neg c8] at hm; cases hm
          ·rw [if_neg c7] at hm; cases hm
         ·have c6b0 : decide (i < (q1.length : Int)) = false := decide_eq_false c6
          obtain ⟨i0, i1, hm⟩ := HI.out
          rw [List.drop_eq_nil_of_le (by omega), impl_solve.m0] at hm
          obtain rfl := Option.some.inj hm
          clear c6 i0 i1 hm HI
          go_wp2
          refine bodyPost_ret (results_list (rs := [.tmp 4, .tmp 5, .tmp 6, .tmp 7]) rfl (by simp) (.tmp (.tmp (.tmp (.tmp .nil))))) rfl ?_
          exact ⟨_, _, rfl, rq_ HM.out, Kd.S_mono (sq_ HS.out) (fun _ _ => trivial), bq_⟩
       ·rw [if_neg n1] at H; cases H
      ·rw [if_neg n0] at H; cases H
   ·rw [if_neg cok] at H; cases H
def impl_Solve.f (k : Nat) (a0 : Int) (l1 : List (List Int)) : Option (Bool × List Bool × (List (List Int)) × Bool) := (impl_GoodClauses.f k a0 l1).bind fun t488 => (if t488 = true then ((impl_solve.f k a0 l1).bind fun bt489 => (some (bt489.1, bt489.2.1, bt489.2.2.1, bt489.2.2.2))) else (some (false, ([] : List Bool), ([] : List (List Int)), false)))
set_option maxHeartbeats 8000000 in
set_option maxRecDepth 100000 in
theorem impl_Solve.calls (k : Nat) (a0 : Int) (A1 : Option Addr) (c1 : Nat) (l1 : List (List Int)) (r1 : Bool) (r2 : List Bool) (r3 : List (List Int)) (r4 : Bool) (w : World) (hr1 : Kd.C (Kd.slice 3 (Kd.int .i64)) w A1 l1.length l1) (hc1 : l1.length ≤ c1) (h : impl_Solve.f k a0 l1 = some (r1, r2, r3, r4)) :
  Calls Try.prog 26 #[.int .i64 a0, .slice A1 l1.length c1] w fun e w' => ∃ v1_ v2_ : Value, e = .returned (.tuple #[.bool r1, v1_, v2_, .bool r4]) ∧ Kd.R Kd.bool 4 w' w.heap.size (fun _ => True) v1_ r2 ∧ Kd.S (Kd.slice 3 (Kd.int .i64)) 43 w' w.heap.size (fun _ => True) v2_ r3 ∧ Below w.heap.size w w' := by
 have HR1 := am_ hr1
 have HC1 := am_ hc1
 clear hr1 hc1
 have HB := am_ (Below.refl w.heap.size w)
 have H : ((impl_GoodClauses.f k a0 l1).bind fun t488 => (if t488 = true then ((impl_solve.f k a0 l1).bind fun bt489 => (some (bt489.1, bt489.2.1, bt489.2.2.1, bt489.2.2.2))) else (some (false, ([] : List Bool), ([] : List (List Int)), false)))) = some (r1, r2, r3, r4) := h
 clear h
 replace H := Option.bind_eq_some_iff.mp H
 obtain ⟨t488, A30, H⟩ := H
 replace H : (if t488 = true then ((impl_solve.f k a0 l1).bind fun bt489 => (some (bt489.1, bt489.2.1, bt489.2.2.1, bt489.2.2.2))) else (some (false, ([] : List Bool), ([] : List (List Int)), false))) = some (r1, r2, r3, r4) := H
 have A3 := am_ A30
 clear A30
 by_cases c4 : t488 = true
 ·subst c4
  have H1 : ((impl_solve.f k a0 l1).bind fun bt489 => (some (bt489.1, bt489.2.1, bt489.2.2.1, bt489.2.2.2))) = some (r1, r2, r3, r4) := by rw [if_pos rfl] at H; exact H
  clear H
  have H := H1
  clear H1
  replace H := Option.bind_eq_some_iff.mp H
  obtain ⟨⟨t489, t490, t491, t492⟩, A50, H⟩ := H
  replace H : (some (t489, t490, t491, t492)) = some (r1, r2, r3, r4) := H
  have A5 := am_ A50
  clear A50
  simp only [Option.some.injEq, Prod.mk.injEq] at H
  obtain ⟨rfl, rfl, rfl, rfl⟩ := H
  go_enter Try.func26, Try.ntmps26
  go_wp2_with (first | ((with_reducible refine gl_ 58 rfl ?_); refine goesM_ (some 10) Try.func58 #[.int .i64 a0, .slice A1 l1.length c1] ?_; (with_reducible refine (impl_GoodClauses.calls k a0 _ _ l1 true _ ?side1 ?side2 A3.out).mono ?_); (case side1 => exact cm_ HR1.out); (case side2 => exact HC1.out); rintro e w6 ⟨rfl, hb⟩; refine ⟨_, rfl, ?_⟩; replace HB := bs_ hb; (try clear hb)) | ((with_reducible refine gl_ 63 rfl ?_); refine goesM_ (some 14) Try.func63 #[.int .i64 a0, .slice A1 l1.length c1] ?_; (with_reducible refine (impl_solve.calls k a0 _ _ l1 t489 t490 t491 t492 _ ?side1 ?side2 A5.out).mono ?_); (case side1 => exact cm_ (Kd.C_below HR1.out HB.out)); (case side2 => exact HC1.out); rintro e w7 ⟨v493, v495, rfl, ho0, ho1, hb⟩; refine ⟨_, rfl, ?_⟩; have HO494 := am_ (Kd.R_lower ho0 (below_size (bq_))); have HO496 := am_ (Kd.S_lower ho1 (below_size (bq_))); replace HB := bs_ hb; (try clear hb); (try clear ho0); (try clear ho1)))
  refine bodyPost_ret (results_list (rs := [.tmp 4, .tmp 5, .tmp 6, .tmp 7]) rfl (by simp) (.tmp (.tmp (.tmp (.tmp .nil))))) rfl ?_
  exact ⟨_, _, by first | rfl | (simp [errW_none, errW_some] <;> rfl) | (simp [*, errW_none, errW_some] <;> rfl), rq_ HO494.out, by (with_reducible repeat (first | apply Kd.S_alloc | apply Kd.S_drewN | apply Kd.S_drew)); exact HO496.out, bq_⟩
 ·replace c4 := Bool.eq_false_iff.mpr c4
  subst c4
  have H1 : (some (false, ([] : List Bool), ([] : List (List Int)), false)) = some (r1, r2, r3, r4) := by rw [if_neg (show ¬ (false = true) by decide)] at H; exact H
  clear H
  have H := H1
  clear H1
  simp only [Option.some.injEq, Prod.mk.injEq] at H
  obtain ⟨rfl, rfl, rfl, rfl⟩ := H
  go_enter Try.func26, Try.ntmps26
  go_wp2_with (first | ((with_reducible refine gl_ 58 rfl ?_); refine goesM_ (some 10) Try.func58 #[.int .i64 a0, .slice A1 l1.length c1] ?_; (with_reducible refine (impl_GoodClauses.calls k a0 _ _ l1 false _ ?side1 ?side2 A3.out).mono ?_); (case side1 => exact cm_ HR1.out); (case side2 => exact HC1.out); rintro e w8 ⟨rfl, hb⟩; refine ⟨_, rfl, ?_⟩; replace HB := bs_ hb; (try clear hb)))
  refine bodyPost_ret (results_list (rs := [.tmp 4, .tmp 5, .tmp 6, .tmp 7]) rfl (by simp) (.tmp (.tmp (.tmp (.tmp .nil))))) rfl ?_
  exact ⟨_, _, by first | rfl | (simp [errW_none, errW_some] <;> rfl) | (simp [*, errW_none, errW_some] <;> rfl), by first | exact Kd.R_nil _ _ _ _ _ | exact Kd.N_nil _ _ _ _ _ | exact Kd.V_nil _ _ _ _ _ | exact Kd.Q_nil _ _ _ _ _ | exact Kd.S_nil _ _ _ _ _, by first | exact Kd.S_nil _ _ _ _ _ | exact Kd.N_nil _ _ _ _ _ | exact Kd.V_nil _ _ _ _ _ | exact Kd.Q_nil _ _ _ _ _ | exact Kd.R_nil _ _ _ _ _, bq_⟩
def spec_DrawGateClauses.f (k : Nat) (l0 : List Int) : Option ((List (S69)) × Int) := (spec_l1Cur_gates.f k l0 0 0).bind fun bt498 => ((spec_l1Cur_pick.f l0 bt498.2.1 bt498.2.2 (wrap64 ((bt498.1.length : Int) + 2))).bind fun bt503 => (some (bt498.1, wrap64 (bt503.1 - 1))))
set_option maxHeartbeats 8000000 in
set_option maxRecDepth 100000 in
theorem spec_DrawGateClauses.calls (k : Nat) (A0 : Option Addr) (c0 : Nat) (l0 : List Int) (r1 : List (S69)) (r2 : Int) (w : World) (hr0 : Kd.C (Kd.int .u8) w A0 l0.length l0) (hc0 : l0.length ≤ c0) (h : spec_DrawGateClauses.f k l0 = some (r1, r2)) :
  Calls Try.prog 27 #[.slice A0 l0.length c0] w fun e w' => ∃ v0_ : Value, e = .returned (.tuple #[v0_, .int .i64 r2]) ∧ Kd.R k69 69 w' w.heap.size (fun _ => True) v0_ r1 ∧ Below w.heap.size w w' := by
 have hu80 := Try.underlying80
 have HR0 := am_ hr0
 have HC0 := am_ hc0
 clear hr0 hc0
 have HB := am_ (Below.refl w.heap.size w)
 have H : ((spec_l1Cur_gates.f k l0 0 0).bind fun bt498 => ((spec_l1Cur_pick.f l0 bt498.2.1 bt498.2.2 (wrap64 ((bt498.1.length : Int) + 2))).bind fun bt503 => (some (bt498.1, wrap64 (bt503.1 - 1))))) = some (r1, r2) := h
 clear h
 replace H := Option.bind_eq_some_iff.mp H
 obtain ⟨⟨t498, t501, t502⟩, A20, H⟩ := H
 replace H : ((spec_l1Cur_pick.f l0 t501 t502 (wrap64 ((t498.length : Int) + 2))).bind fun bt503 => (some (t498, wrap64 (bt503.1 - 1)))) = some (r1, r2) := H
 have A2 := am_ A20
 clear A20
 replace H := Option.bind_eq_some_iff.mp H
 obtain ⟨⟨t503, t504, t505⟩, A30, H⟩ := H
 replace H : (some (t498, wrap64 (t503 - 1))) = some (r1, r2) := H
 have A3 := am_ A30
 clear A30
 simp only [Option.some.injEq, Prod.mk.injEq] at H
 obtain ⟨rfl, rfl⟩ := H
 go_enter Try.func27, Try.ntmps27
 go_wp2_with (first | ((with_reducible refine gate_dst (N := 8) rfl ?_); refine boxq_ (N := 8) (cs := #[.slice A0 l0.length c0, .int .i64 0, .int .u64 0]) (t := 80) ?_; intro gb497 hg w4 hbox hb; have HI497 := am_ ((show IsS80 w w4 gb497 l0 0 0 from ⟨_, _, hbox, (by rw [hg]; exact (below_size (bq_))), HR0.out⟩)); replace HB := bs_ hb; clear hb hbox hg) | ((with_reducible refine gl_ 50 rfl ?_); refine goesM_ (some 10) Try.func50 #[.pointer (some ⟨gb497, 0, none⟩)] ?_; (with_reducible refine (spec_l1Cur_gates.calls k gb497 l0 0 0 t498 t501 t502 w _ ?side1 ?side2 A2.out).mono ?_); (case side1 => repeat (first | (with_reducible first | exact HI497.out | apply IsS80.alloc | apply IsS80.drewN | apply IsS80.drew | apply IsS80.set_1 | apply IsS80.set_2) | exact HI497.out)); (case side2 => repeat (first | (with_reducible first | exact HB.out | apply below_alloc | apply pw_below_drewN | apply below_drew1 | refine below_set ?_ (IsS80.ge HI497.out)) | exact HB.out)); rintro e w5 ⟨v499, rfl, ho0, hi, hb, hk⟩; refine ⟨_, rfl, ?_⟩; have HO500 := am_ (Kd.R_lower ho0 (below_size (by repeat (first | (with_reducible first | exact HB.out | apply below_alloc | apply pw_below_drewN | apply below_drew1 | refine below_set ?_ (IsS80.ge HI497.out)) | exact HB.out)))); replace HB := am_ (hb); replace HI497 := am_ (hi); (try clear hb); (try clear hk); (try clear hi); (try clear ho0); obtain ⟨Ao6, co6, eo6⟩ := Kd.R_slice HO500.out; subst eo6) | ((with_reducible refine gl_ 53 rfl ?_); refine goesM_ (some 16) Try.func53 #[.pointer (some ⟨gb497, 0, none⟩), .int .i64 (wrap64 ((t498.length : Int) + 2))] ?_; (with_reducible refine (spec_l1Cur_pick.calls gb497 l0 t501 t502 (wrap64 ((t498.length : Int) + 2)) t503 t504 t505 w _ ?side1 ?side2 A3.out).mono ?_); (case side1 => repeat (first | (with_reducible first | exact HI497.out | apply IsS80.alloc | apply IsS80.drewN | apply IsS80.drew | apply IsS80.set_1 | apply IsS80.set_2) | exact HI497.out)); (case side2 => repeat (first | (with_reducible first | exact HB.out | apply below_alloc | apply pw_below_drewN | apply below_drew1 | refine below_set ?_ (IsS80.ge HI497.out)) | exact HB.out)); rintro e w7 ⟨rfl, hi, hb, hk⟩; refine ⟨_, rfl, ?_⟩; replace HO500 := am_ (Kd.R_mono (Kd.R_keep (IsS80.apart (show IsS80 w _ gb497 l0 t501 t502 from by repeat (first | (with_reducible first | exact HI497.out | apply IsS80.alloc | apply IsS80.drewN | apply IsS80.drew | apply IsS80.set_1 | apply IsS80.set_2) | exact HI497.out)) (rq_ HO500.out) (by decide)) hk (fun _ h => h.2)) (fun _ h => h.1)); replace HB := am_ (hb); replace HI497 := am_ (hi); (try clear hb); (try clear hk); (try clear hi)))
 go_ret2
 exact ⟨_, by first | rfl | (simp [errW_none, errW_some] <;> rfl) | (simp [*, errW_none, errW_some] <;> rfl), rq_ HO500.out, by repeat (first | (with_reducible first | exact HB.out | apply below_alloc | apply pw_below_drewN | apply below_drew1 | refine below_set ?_ (IsS80.ge HI497.out)) | exact HB.out)⟩
def spec_DrawInputsBy.f (k : Nat) (l0 : List Int) : Option ((List (S69)) × List Bool) := (spec_l1Cur_gates.f k l0 0 0).bind fun bt507 => ((spec_l1Cur_pick.f l0 bt507.2.1 bt507.2.2 20).bind fun bt512 => ((spec_l1Cur_pick.f l0 bt512.2.1 bt512.2.2 256).bind fun bt515 => ((spec_l4Model.f k (wrap64 ((bt507.1.length : Int) + (wrap64 (Int.tdiv bt512.1 19)))) (wrap64 (bt515.1 * 16))).bind fun t518 => (some (bt507.1, t518)))))
set_option maxHeartbeats 8000000 in
set_option maxRecDepth 100000 in
theorem spec_DrawInputsBy.calls (k : Nat) (A0 : Option Addr) (c0 : Nat) (l0 : List Int) (r1 : List (S69)) (r2 : List Bool) (w : World) (hr0 : Kd.C (Kd.int .u8) w A0 l0.length l0) (hc0 : l0.length ≤ c0) (h : spec_DrawInputsBy.f k l0 = some (r1, r2)) :
  Calls Try.prog 28 #[.slice A0 l0.length c0] w fun e w' => ∃ v0_ v1_ : Value, e = .returned (.tuple #[v0_, v1_]) ∧ Kd.R k69 69 w' w.heap.size (fun _ => True) v0_ r1 ∧ Kd.R Kd.bool 4 w' w.heap.size (fun _ => True) v1_ r2 ∧ Below w.heap.size w w' := by
 have hu80 := Try.underlying80
 have HR0 := am_ hr0
 have HC0 := am_ hc0
 clear hr0 hc0
 have HB := am_ (Below.refl w.heap.size w)
 have H : ((spec_l1Cur_gates.f k l0 0 0).bind fun bt507 => ((spec_l1Cur_pick.f l0 bt507.2.1 bt507.2.2 20).bind fun bt512 => ((spec_l1Cur_pick.f l0 bt512.2.1 bt512.2.2 256).bind fun bt515 => ((spec_l4Model.f k (wrap64 ((bt507.1.length : Int) + (wrap64 (Int.tdiv bt512.1 19)))) (wrap64 (bt515.1 * 16))).bind fun t518 => (some (bt507.1, t518)))))) = some (r1, r2) := h
 clear h
 replace H := Option.bind_eq_some_iff.mp H
 obtain ⟨⟨t507, t510, t511⟩, A20, H⟩ := H
 replace H : ((spec_l1Cur_pick.f l0 t510 t511 20).bind fun bt512 => ((spec_l1Cur_pick.f l0 bt512.2.1 bt512.2.2 256).bind fun bt515 => ((spec_l4Model.f k (wrap64 ((t507.length : Int) + (wrap64 (Int.tdiv bt512.1 19)))) (wrap64 (bt515.1 * 16))).bind fun t518 => (some (t507, t518))))) = some (r1, r2) := H
 have A2 := am_ A20
 clear A20
 replace H := Option.bind_eq_some_iff.mp H
 obtain ⟨⟨t512, t513, t514⟩, A30, H⟩ := H
 replace H : ((spec_l1Cur_pick.f l0 t513 t514 256).bind fun bt515 => ((spec_l4Model.f k (wrap64 ((t507.length : Int) + (wrap64 (Int.tdiv t512 19)))) (wrap64 (bt515.1 * 16))).bind fun t518 => (some (t507, t518)))) = some (r1, r2) := H
 have A3 := am_ A30
 clear A30
 replace H := Option.bind_eq_some_iff.mp H
 obtain ⟨⟨t515, t516, t517⟩, A40, H⟩ := H
 replace H : ((spec_l4Model.f k (wrap64 ((t507.length : Int) + (wrap64 (Int.tdiv t512 19)))) (wrap64 (t515 * 16))).bind fun t518 => (some (t507, t518))) = some (r1, r2) := H
 have A4 := am_ A40
 clear A40
 replace H := Option.bind_eq_some_iff.mp H
 obtain ⟨t518, A50, H⟩ := H
 replace H : (some (t507, t518)) = some (r1, r2) := H
 have A5 := am_ A50
 clear A50
 simp only [Option.some.injEq, Prod.mk.injEq] at H
 obtain ⟨rfl, rfl⟩ := H
 go_enter Try.func28, Try.ntmps28
 go_wp2_with (first | ((with_reducible refine gate_dst (N := 8) rfl ?_); refine boxq_ (N := 8) (cs := #[.slice A0 l0.length c0, .int .i64 0, .int .u64 0]) (t := 80) ?_; intro gb506 hg w6 hbox hb; have HI506 := am_ ((show IsS80 w w6 gb506 l0 0 0 from ⟨_, _, hbox, (by rw [hg]; exact (below_size (bq_))), HR0.out⟩)); replace HB := bs_ hb; clear hb hbox hg) | ((with_reducible refine gl_ 50 rfl ?_); refine goesM_ (some 10) Try.func50 #[.pointer (some ⟨gb506, 0, none⟩)] ?_; (with_reducible refine (spec_l1Cur_gates.calls k gb506 l0 0 0 t507 t510 t511 w _ ?side1 ?side2 A2.out).mono ?_); (case side1 => repeat (first | (with_reducible first | exact HI506.out | apply IsS80.alloc | apply IsS80.drewN | apply IsS80.drew | apply IsS80.set_1 | apply IsS80.set_2) | exact HI506.out)); (case side2 => repeat (first | (with_reducible first | exact HB.out | apply below_alloc | apply pw_below_drewN | apply below_drew1 | refine below_set ?_ (IsS80.ge HI506.out)) | exact HB.out)); rintro e w7 ⟨v508, rfl, ho0, hi, hb, hk⟩; refine ⟨_, rfl, ?_⟩; have HO509 := am_ (Kd.R_lower ho0 (below_size y8_)); replace HB := am_ (hb); replace HI506 := am_ (hi); (try clear hb); (try clear hk); (try clear hi); (try clear ho0); obtain ⟨Ao8, co8, eo8⟩ := Kd.R_slice HO509.out; subst eo8) | ((with_reducible refine gl_ 53 rfl ?_); refine goesM_ (some 15) Try.func53 #[.pointer (some ⟨gb506, 0, none⟩), .int .i64 20] ?_; (with_reducible refine (spec_l1Cur_pick.calls gb506 l0 t510 t511 20 t512 t513 t514 w _ ?side1 ?side2 A3.out).mono ?_); (case side1 => repeat (first | (with_reducible first | exact HI506.out | apply IsS80.alloc | apply IsS80.drewN | apply IsS80.drew | apply IsS80.set_1 | apply IsS80.set_2) | exact HI506.out)); (case side2 => repeat (first | (with_reducible first | exact HB.out | apply below_alloc | apply pw_below_drewN | apply below_drew1 | refine below_set ?_ (IsS80.ge HI506.out)) | exact HB.out)); rintro e w9 ⟨rfl, hi, hb, hk⟩; refine ⟨_, rfl, ?_⟩; replace HO509 := am_ (Kd.R_mono (Kd.R_keep (IsS80.apart (show IsS80 w _ gb506 l0 t510 t511 from by repeat (first | (with_reducible first | exact HI506.out | apply IsS80.alloc | apply IsS80.drewN | apply IsS80.drew | apply IsS80.set_1 | apply IsS80.set_2) | exact HI506.out)) (rq_ HO509.out) (by decide)) hk (fun _ h => h.2)) (fun _ h => h.1)); replace HB := am_ (hb); replace HI506 := am_ (hi); (try clear hb); (try clear hk); (try clear hi)) | ((with_reducible refine gl_ 53 rfl ?_); refine goesM_ (some 19) Try.func53 #[.pointer (some ⟨gb506, 0, none⟩), .int .i64 256] ?_; (with_reducible refine (spec_l1Cur_pick.calls gb506 l0 t513 t514 256 t515 t516 t517 w _ ?side1 ?side2 A4.out).mono ?_); (case side1 => repeat (first | (with_reducible first | exact HI506.out | apply IsS80.alloc | apply IsS80.drewN | apply IsS80.drew | apply IsS80.set_1 | apply IsS80.set_2) | exact HI506.out)); (case side2 => repeat (first | (with_reducible first | exact HB.out | apply below_alloc | apply pw_below_drewN | apply below_drew1 | refine below_set ?_ (IsS80.ge HI506.out)) | exact HB.out)); rintro e w10 ⟨rfl, hi, hb, hk⟩; refine ⟨_, rfl, ?_⟩; replace HO509 := am_ (Kd.R_mono (Kd.R_keep (IsS80.apart (show IsS80 w _ gb506 l0 t513 t514 from by repeat (first | (with_reducible first | exact HI506.out | apply IsS80.alloc | apply IsS80.drewN | apply IsS80.drew | apply IsS80.set_1 | apply IsS80.set_2) | exact HI506.out)) (rq_ HO509.out) (by decide)) hk (fun _ h => h.2)) (fun _ h => h.1)); replace HB := am_ (hb); replace HI506 := am_ (hi); (try clear hb); (try clear hk); (try clear hi)) | ((with_reducible refine gl_ 52 rfl ?_); refine goesM_ (some 21) Try.func52 #[.int .i64 (wrap64 ((t507.length : Int) + (wrap64 (Int.tdiv t512 19)))), .int .i64 (wrap64 (t515 * 16))] ?_; (with_reducible refine (spec_l4Model.calls k (wrap64 ((t507.length : Int) + (wrap64 (Int.tdiv t512 19)))) (wrap64 (t515 * 16)) t518 _ A5.out).mono ?_); rintro e w11 ⟨v519, rfl, ho0, hb⟩; refine ⟨_, rfl, ?_⟩; replace HO509 := am_ (Kd.R_below (rq_ HO509.out) hb); have HO520 := am_ (Kd.R_lower ho0 (below_size y8_)); replace HB := am_ (below_step y8_ hb); replace HI506 := am_ (IsS80.below (by repeat (first | (with_reducible first | exact HI506.out | apply IsS80.alloc | apply IsS80.drewN | apply IsS80.drew | apply IsS80.set_1 | apply IsS80.set_2) | exact HI506.out)) hb); (try clear hb); (try clear hk); (try clear hi); (try clear ho0)))
 go_ret2
 exact ⟨_, _, by first | rfl | (simp [errW_none, errW_some] <;> rfl) | (simp [*, errW_none, errW_some] <;> rfl), rq_ HO509.out, rq_ HO520.out, by repeat (first | (with_reducible first | exact HB.out | apply below_alloc | apply pw_below_drewN | apply below_drew1 | refine below_set ?_ (IsS80.ge HI506.out)) | exact HB.out)⟩
mutual
def impl_InputsBy.j0 : Nat → List (S69) → List Bool → Bool → Option (List Bool × Bool)
 | 0, _, _, _ => none
 | k + 1, x0, x1, x18 => if x18 = true then (some (([] : List Bool), false)) else ((impl_inputs.f k x0).bind fun t522 => (impl_InputsBy.l0 k x1 ([] : List Bool) t522 (t522.length : Int) 0))
def impl_InputsBy.l0 : Nat → List Bool → List Bool → List Int → Int → Int → Option (List Bool × Bool)
 | 0, _, _, _, _, _ => none
 | k + 1, x1, x6, x20, x21, x22 => if x22 < x21 then (if 0 ≤ x22 then (if x22 < (x20.length : Int) then (if 0 ≤ (rd x20 x22) then (if (rd x20 x22) < (x1.length : Int) then (if x6.length < 140737488355328 then (impl_InputsBy.l0 k x1 (x6 ++ [rdOf false x1 (rd x20 x22)]) x20 x21 (wrap64 (x22 + 1))) else (none)) else (none)) else (none)) else (none)) else (none)) else (some (x6, true))
end
def impl_InputsBy.f (k : Nat) (l0 : List (S69)) (l1 : List Bool) : Option (List Bool × Bool) := (impl_GoodGates.f k l0).bind fun t521 => (if t521 = true then (impl_InputsBy.j0 k l0 l1 ((l1.length : Int) != (l0.length : Int))) else (impl_InputsBy.j0 k l0 l1 true))
set_option maxHeartbeats 8000000 in
set_option maxRecDepth 100000 in
theorem impl_InputsBy.calls (k : Nat) (A0 : Option Addr) (c0 : Nat) (l0 : List (S69)) (A1 : Option Addr) (c1 : Nat) (l1 : List Bool) (r1 : List Bool) (r2 : Bool) (w : World) (hr0 : Kd.C k69 w A0 l0.length l0) (hc0 : l0.length ≤ c0) (hr1 : Kd.C Kd.bool w A1 l1.length l1) (hc1 : l1.length ≤ c1) (h : impl_InputsBy.f k l0 l1 = some (r1, r2)) :
  Calls Try.prog 29 #[.slice A0 l0.length c0, .slice A1 l1.length c1] w fun e w' => ∃ v0_ : Value, e = .returned (.tuple #[v0_, .bool r2]) ∧ Kd.R Kd.bool 4 w' w.heap.size (fun _ => True) v0_ r1 ∧ Below w.heap.size w w' := by
 have HR0 := am_ hr0
 have HC0 := am_ hc0
 clear hr0 hc0
 have HR1 := am_ hr1
 have HC1 := am_ hc1
 clear hr1 hc1
 have HB := am_ (Below.refl w.heap.size w)
 have H : ((impl_GoodGates.f k l0).bind fun t521 => (if t521 = true then (impl_InputsBy.j0 k l0 l1 ((l1.length : Int) != (l0.length : Int))) else (impl_InputsBy.j0 k l0 l1 true))) = some (r1, r2) := h
 clear h
 have HC3 := am_ H
 clear H
 go_enter Try.func29, Try.ntmps29
 go_upto_region 1 with (fail)
 go_cut [18] (fun v18 wc => ∃ (kq : Nat) (x18_2 : Bool), v18 = .bool x18_2 ∧ Aside0 (impl_InputsBy.j0 kq l0 l1 x18_2 = some (r1, r2)) ∧ Aside0 (kq ≤ k) ∧ Aside0 (Below w.heap.size w wc))
 case first =>
  have H := HC3.out
  clear HC3
  replace H := Option.bind_eq_some_iff.mp H
  obtain ⟨t521, A40, H⟩ := H
  replace H : (if t521 = true then (impl_InputsBy.j0 k l0 l1 ((l1.length : Int) != (l0.length : Int))) else (impl_InputsBy.j0 k l0 l1 true)) = some (r1, r2) := H
  have A4 := am_ A40
  clear A40
  by_cases c5 : t521 = true
  ·subst c5
   have H1 : (impl_InputsBy.j0 k l0 l1 ((l1.length : Int) != (l0.length : Int))) = some (r1, r2) := by rw [if_pos rfl] at H; exact H
   clear H
   have H := H1
   clear H1
   have H' := am_ H
   clear H
   go_wp2_with (first | ((with_reducible refine gl_ 34 rfl ?_); refine goesM_ (some 10) Try.func34 #[.slice A0 l0.length c0] ?_; (with_reducible refine (impl_GoodGates.calls k _ _ l0 true _ ?side1 ?side2 A4.out).mono ?_); (case side1 => exact cm_ (Kd.C_below HR0.out HB.out)); (case side2 => exact HC0.out); rintro e w6 ⟨rfl, hb⟩; refine ⟨_, rfl, ?_⟩; replace HB := bs_ hb; (try clear hb)))
   go_meet
   case rel => exact ⟨_, (((l1.length : Int) != (l0.length : Int))), y53_, H', ⟨by first | omega | exact Nat.le_refl _⟩, ⟨bq_⟩⟩
  ·replace c5 := Bool.eq_false_iff.mpr c5
   subst c5
   have H1 : (impl_InputsBy.j0 k l0 l1 true) = some (r1, r2) := by rw [if_neg (show ¬ (false = true) by decide)] at H; exact H
   clear H
   have H := H1
   clear H1
   have H' := am_ H
   clear H
   go_wp2_with (first | ((with_reducible refine gl_ 34 rfl ?_); refine goesM_ (some 10) Try.func34 #[.slice A0 l0.length c0] ?_; (with_reducible refine (impl_GoodGates.calls k _ _ l0 false _ ?side1 ?side2 A4.out).mono ?_); (case side1 => exact cm_ (Kd.C_below HR0.out HB.out)); (case side2 => exact HC0.out); rintro e w7 ⟨rfl, hb⟩; refine ⟨_, rfl, ?_⟩; replace HB := bs_ hb; (try clear hb)))
   go_meet
   case rel => exact ⟨_, (true), y53_, H', ⟨by first | omega | exact Nat.le_refl _⟩, ⟨bq_⟩⟩
 case rest =>
  clear HC3
  try clear c1
  try clear c2
  try clear p2
  try clear c3
  try clear c5
  obtain ⟨kq, x18_2, rfl, HA, HJ2, HB⟩ := hcut
  cases kq with
  | zero => exact absurd HA.out (by simp [impl_InputsBy.j0])
  | succ kj2 =>
   have H := HA.out
   clear HA
   simp only [impl_InputsBy.j0] at H
   by_cases c8 : x18_2 = true
   ·subst c8
    have H1 : (some (([] : List Bool), false)) = some (r1, r2) := by rw [if_pos rfl] at H; exact H
    clear H
    have H := H1
    clear H1
    simp only [Option.some.injEq, Prod.mk.injEq] at H
    obtain ⟨rfl, rfl⟩ := H
    go_wp2
    go_ret2
    exact ⟨_, by first | rfl | (simp [errW_none, errW_some] <;> rfl) | (simp [*, errW_none, errW_some] <;> rfl), by first | exact Kd.R_nil _ _ _ _ _ | exact Kd.N_nil _ _ _ _ _ | exact Kd.V_nil _ _ _ _ _ | exact Kd.Q_nil _ _ _ _ _ | exact Kd.S_nil _ _ _ _ _, bq_⟩
   ·replace c8 := Bool.eq_false_iff.mpr c8
    subst c8
    have H1 : ((impl_inputs.f kj2 l0).bind fun t522 => (impl_InputsBy.l0 kj2 l1 ([] : List Bool) t522 (t522.length : Int) 0)) = some (r1, r2) := by rw [if_neg (show ¬ (false = true) by decide)] at H; exact H
    clear H
    have H := H1
    clear H1
    replace H := Option.bind_eq_some_iff.mp H
    obtain ⟨t522, A90, H⟩ := H
    replace H : (impl_InputsBy.l0 kj2 l1 ([] : List Bool) t522 (t522.length : Int) 0) = some (r1, r2) := H
    have A9 := am_ A90
    clear A90
    have H' := am_ H
    clear H
    go_wp2_with (first | ((with_reducible refine gl_ 54 rfl ?_); refine goesM_ (some 20) Try.func54 #[.slice A0 l0.length c0] ?_; (with_reducible refine (impl_inputs.calls kj2 _ _ l0 t522 _ ?side1 ?side2 A9.out).mono ?_); (case side1 => exact cm_ (Kd.C_below HR0.out HB.out)); (case side2 => exact HC0.out); rintro e w10 ⟨v523, rfl, ho0, hb⟩; refine ⟨_, rfl, ?_⟩; have HO524 := am_ (Kd.R_lower ho0 (below_size (bq_))); replace HB := bs_ hb; (try clear hb); (try clear ho0); obtain ⟨Ao11, co11, eo11⟩ := Kd.R_slice HO524.out; subst eo11))
    go_loopg [6, 22] kj2 (fun kq v6 v22 w' => ∃ (x6_2 : List Bool) (x22_2 : Int), v22 = .int .i64 x22_2 ∧ Aside0 (impl_InputsBy.l0 kq l1 x6_2 t522 (t522.length : Int) x22_2 = some (r1, r2)) ∧ Aside0 (kq ≤ kj2) ∧ Aside0 (Kd.R Kd.bool 4 w' w.heap.size (fun _ => True) v6 x6_2) ∧ Aside0 (Kd.R (Kd.int .i64) 3 w' w.heap.size (fun _ => True) (.slice Ao11 t522.length co11) t522) ∧ Aside0 (Below w.heap.size w w'))
    case atStart => exact ⟨(([] : List Bool)), (0), y53_, H', ⟨Nat.le_refl _⟩, ⟨by first | exact Kd.R_nil _ _ _ _ _ | exact Kd.N_nil _ _ _ _ _ | exact Kd.V_nil _ _ _ _ _ | exact Kd.Q_nil _ _ _ _ _ | exact Kd.S_nil _ _ _ _ _⟩, ⟨rq_ HO524.out⟩, ⟨bq_⟩⟩
    case round =>
     clear H'
     try clear c1
     try clear c2
     try clear p2
     try clear c3
     try clear c5
     try clear c8
     try clear p2
     obtain ⟨x6_2, x22_2, rfl, HA, HK2, HO_6, HO_20, HB⟩ := hrel
     cases gk with
     | zero => exact absurd HA.out (by simp [impl_InputsBy.l0])
     | succ k2 =>
      have H := HA.out
      clear HA
      simp only [impl_InputsBy.l0] at H
      by_cases c12 : x22_2 < (t522.length : Int)
      ·rw [if_pos c12] at H
       have c12b0 : decide (x22_2 < (t522.length : Int)) = true := decide_eq_true c12
       clear c12
       by_cases c13 : 0 ≤ x22_2
       ·rw [if_pos c13] at H
        have c13b0 : decide (0 ≤ x22_2) = true := decide_eq_true c13
        clear c13
        by_cases c14 : x22_2 < (t522.length : Int)
        ·rw [if_pos c14] at H
         have c14b0 : decide (x22_2 < (t522.length : Int)) = true := decide_eq_true c14
         clear c14
         by_cases c15 : 0 ≤ (rd t522 x22_2)
         ·rw [if_pos c15] at H
          have c15b0 : decide (0 ≤ (rd t522 x22_2)) = true := decide_eq_true c15
          clear c15
          by_cases c16 : (rd t522 x22_2) < (l1.length : Int)
          ·rw [if_pos c16] at H
           have c16b0 : decide ((rd t522 x22_2) < (l1.length : Int)) = true := decide_eq_true c16
           clear c16
           by_cases c17 : x6_2.length < 140737488355328
           ·rw [if_pos c17] at H
            have LMc17 := am_ c17
            clear c17
            obtain ⟨y527, hy527⟩ : ∃ y_ : List Bool, y_ = (x6_2 ++ [rdOf false l1 (rd t522 x22_2)]) := ⟨_, rfl⟩
            replace H : (impl_InputsBy.l0 k2 l1 y527 t522 (t522.length : Int) (wrap64 (x22_2 + 1))) = some (r1, r2) := by first | (rw [hy527]; with_reducible exact H) | (have H2_ := (Option.bind_some _ _).symm.trans H; rw [hy527]; with_reducible exact H2_) | (have H2_ := (Option.bind_some _ _).symm.trans H; with_reducible exact H2_) | with_reducible exact H | (rw [hy527]; exact H) | exact H
            have Ny527 := am_ hy527
            clear hy527
            have H' := am_ H
            clear H
            have p525 : 0 ≤ (x22_2 : Int) := od_
            have q525 : x22_2 < (t522.length : Int) := od_
            obtain ⟨ad525, e525, hx525_0⟩ := Kd.at_int (Kd.R_reads' HO_20.out).2.2 x22_2 p525 q525
            cases e525
            replace p525 := eq_true p525
            replace q525 := eq_true q525
            have p526 : 0 ≤ ((rd t522 x22_2) : Int) := od_
            have q526 : (rd t522 x22_2) < (l1.length : Int) := od_
            obtain ⟨ad526, e526, hx526_0⟩ := Kd.at_bool HR1.out (rd t522 x22_2) p526 q526
            cases e526
            replace hx526_0 := (HB.out.cell (World.block_lt_of_cell? w _ hx526_0)).trans hx526_0
            replace p526 := eq_true p526
            replace q526 := eq_true q526
            go_wp2_with (first | ((with_reducible refine gate_builtin (b := .append) (xs := #[.tmp 26, .tmp 31]) rfl ?_); (try (refine gate_guard (by rfl) ?_; dsimp only)); at_builtin; refine Kd.R_append Kd.bool (w0 := w) w.heap.size rfl (.tmp 26) (.tmp 31) 37 4 (.bool false) 1 rfl Try.underlying37 info4 rfl (by decide) (by omega) u6 x6_2 (rdOf false l1 (rd t522 x22_2)) [.bool (rdOf false l1 (rd t522 x22_2))] (fun _ => True) (fun _ => False) rfl rfl ?aP (fun _ hk => hk.elim) ?aF ?aO ?aB ?aS ?aL ?_; (case aP => exact rfl); (case aB => exact (bq_)); (case aF => exact (fun _ _ => trivial)); (case aO => exact (rq_ HO_6.out)); (case aS => exact (below_size (bq_))); (case aL => have := LMc17.out; omega); intro v528 w18 ho hb hg hat; rw [← Ny527.out] at ho; replace HO_20 := am_ (Kd.R_over' (rq_ HO_20.out) (Kd.R_typed (rq_ HO_6.out)) (by decide) hg); replace HB := am_ (hb); have HO529 := am_ (ho); clear HO_6; clear ho hb hg hat))
            go_roundg k2
            case measure => have := HJ2.out; have := HK2.out; omega
            case rel => exact ⟨(y527), (wrap64 (x22_2 + 1)), y53_, H', ⟨by have := HJ2.out; have := HK2.out; omega⟩, ⟨rq_ HO529.out⟩, ⟨rq_ HO_20.out⟩, ⟨bq_⟩⟩
           ·rw [if_neg c17] at H
            exact absurd H (by simp)
          ·rw [if_neg c16] at H
           exact absurd H (by simp)
         ·rw [if_neg c15] at H
          exact absurd H (by simp)
        ·rw [if_neg c14] at H
         exact absurd H (by simp)
       ·rw [if_neg c13] at H
        exact absurd H (by simp)
      ·rw [if_neg c12] at H
       have c12b0 : decide (x22_2 < (t522.length : Int)) = false := decide_eq_false c12
       clear c12
       simp only [Option.some.injEq, Prod.mk.injEq] at H
       obtain ⟨rfl, rfl⟩ := H
       go_wp2
       go_ret2
       exact ⟨_, by first | rfl | (simp [errW_none, errW_some] <;> rfl) | (simp [*, errW_none, errW_some] <;> rfl), rq_ HO_6.out, bq_⟩
end Go.Proofs.Ytgahidilhjijiaa.PGG
