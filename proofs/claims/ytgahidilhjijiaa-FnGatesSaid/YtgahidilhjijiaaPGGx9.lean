import Derived.Lib.SliceRun
import Derived.Test.YtgahidilhjijiaaPGGx0
import Derived.Test.YtgahidilhjijiaaPGGx3
import Derived.Test.YtgahidilhjijiaaPGGx8
namespace Go.Proofs.Ytgahidilhjijiaa.PGG
open Go.RowKit Go.Proofs.YtgahidilhjijiaaW.PrintWords Go.Proofs.YtgahidilhjijiaaW.PrintLast Go.Proofs.YtgahidilhjijiaaW.PrintMore
attribute [local go_sem] max2_int min2_int max_two min_two max_three min_three max_four min_four   -- for this text's walks alone
set_option linter.unusedVariables false
set_option linter.unusedSimpArgs false
theorem impl_without.w1 (i : Nat) (h : i < 4611686018427387904) : wrap64 ((i : Int) + 1) = ((i + 1 : Nat) : Int) := by unfold wrap64; omega
theorem impl_without.has (m : List Int) (x : Int) (hm : m.length ≤ 1099511627776) : ∀ d i, i + d = m.length → ∃ t, slices_Index_int_int.l0 (d + 1) m x (m.length : Int) (i : Int) = some t ∧ decide (t ≥ 0) = (m.drop i).contains x
 | 0, i, h => ⟨-1, by rw [slices_Index_int_int.l0, if_neg (by omega)], by rw [List.drop_eq_nil_of_le (by omega)]; rfl⟩
 | d + 1, i, h => by
  have hi : i < m.length := by omega
  have er : rd m (i : Int) = m[i] := by unfold rd; rw [Int.toNat_natCast, List.getD_eq_getElem?_getD, List.getElem?_eq_getElem hi]; rfl
  obtain ⟨t, h1, h2⟩ := impl_without.has m x hm d (i + 1) (by omega)
  rw [slices_Index_int_int.l0, if_pos (by omega), if_pos (by omega), if_pos (by omega), er, impl_without.w1 i (by omega), List.drop_eq_getElem_cons hi, List.contains_cons]
  by_cases c : x = m[i]
  ·rw [if_pos c]
   exact ⟨_, rfl, by rw [decide_eq_true (by omega), beq_iff_eq.mpr c]; rfl⟩
  ·rw [if_neg c]
   exact ⟨t, h1, by rw [h2, beq_eq_false_iff_ne.mpr c]; rfl⟩
theorem impl_without.has_ (m : List Int) (x : Int) (hm : m.length ≤ 1099511627776) : slices_Contains_int_int.f (m.length + 1) m x = some (m.contains x) := by
 obtain ⟨t, h1, h2⟩ := impl_without.has m x hm m.length 0 (by omega)
 unfold slices_Contains_int_int.f slices_Index_int_int.f
 rw [show ((0 : Nat) : Int) = 0 from rfl] at h1
 rw [List.drop_zero] at h2
 rw [h1, Option.bind_some, h2]
set_option maxHeartbeats 8000000 in
set_option maxRecDepth 100000 in
theorem impl_without.np_calls (A : Option Addr) (c : Nat) (m : List Int) (B : Nat) (x : Int) (w : World) (hcl : w.cell? ⟨B, 0, none⟩ = some (.slice A m.length c)) (hc : m.length ≤ c) (hl : m.length ≤ 1099511627776) (hm : Kd.C (Kd.int .i64) w A m.length m) :
  Calls Try.prog 93 #[.int .i64 x, .pointer (some ⟨B, 0, none⟩)] w fun e w' => e = .returned (.bool (m.contains (wrap64 (-x)))) ∧ Drawn0 w w' := by
 have A7 := am_ (impl_without.has_ m (wrap64 (-x)) hl)
 have HM := am_ hm
 have HC := am_ hc
 clear hm hc hl
 generalize m.contains (wrap64 (-x)) = v at A7 ⊢
 have eg := fun args w => enters_ (P := Try.prog) Try.func87 (by kernel_rfl) rfl args w
 go_enter Try.func93, Try.ntmps93
 go_wp2_with (go_at_call 87; refine (slices_Contains_int_int.calls (m.length + 1) _ _ m (wrap64 (-x)) v _ (cm_ HM.out) HC.out A7.out).mono ?_; rintro e w' ⟨rfl, ⟨nd, rfl⟩⟩)
 go_ret
 exact ⟨by first | rfl | (simp; done) | (simp [*]; done), by repeat (first | exact Drawn0.refl _ | apply Drawn0.step)⟩
def impl_without.idx : Nat → (Int → Option Bool) → List Int → Int → Option Int
 | 0, _, _, _ => none
 | k + 1, p, l, i => if i < (l.length : Int) then (if 0 ≤ i then ((p (rd l i)).bind fun t => (if t = true then some i else impl_without.idx k p l (wrap64 (i + 1)))) else none) else some (-1)
set_option maxHeartbeats 8000000 in
set_option maxRecDepth 100000 in
theorem impl_without.idx_calls (k : Nat) (B : Nat) (p : Int → Option Bool) (A0 : Option Addr) (c0 : Nat) (l0 : List Int) (r : Int) (w : World) (hp : ∀ (W : World) (x : Int) (v : Bool), Drawn0 w W → p x = some v → Calls Try.prog 93 #[.int .i64 x, .pointer (some ⟨B, 0, none⟩)] W fun e w' => e = .returned (.bool v) ∧ Drawn0 W w') (hr0 : Kd.C (Kd.int .i64) w A0 l0.length l0) (h : impl_without.idx k p l0 0 = some r) :
  Calls Try.prog 90 #[.slice A0 l0.length c0, .func (.func 93) #[] #[.pointer (some ⟨B, 0, none⟩)]] w fun e w' => e = .returned (.int .i64 r) ∧ Drawn0 w w' := by
 have HR0 := am_ hr0
 have HP := am_ hp
 clear hr0 hp
 have H' := am_ h
 clear h
 have eg := fun args w => enters_ (P := Try.prog) Try.func93 (by kernel_rfl) rfl args w
 go_enter Try.func90, Try.ntmps90
 go_wp2
 go_loopg [5, 8] k (fun kq v5 v8 w' => ∃ (x8 : Int), v8 = .int .i64 x8 ∧ Aside0 (impl_without.idx kq p l0 x8 = some r) ∧ Aside0 (kq ≤ k) ∧ Drawn0 w w')
 case atStart => exact ⟨0, y53_, H', ⟨Nat.le_refl _⟩, by repeat (first | exact Drawn0.refl _ | apply Drawn0.step)⟩
 case round =>
  clear H'
  try clear p2
  obtain ⟨x8, rfl, HA, HK1, ⟨m1, rfl⟩⟩ := hrel
  cases gk with
  | zero => exact absurd HA.out (by simp [impl_without.idx])
  | succ k1 =>
   have H := HA.out
   clear HA
   simp only [impl_without.idx] at H
   by_cases c4 : x8 < (l0.length : Int)
   ·rw [if_pos c4] at H
    have c4b0 : decide (x8 < (l0.length : Int)) = true := decide_eq_true c4
    by_cases c5 : 0 ≤ x8
    ·rw [if_pos c5] at H
     have c5b0 : decide (0 ≤ x8) = true := decide_eq_true c5
     obtain ⟨ad101, e101, hx101_0⟩ := Kd.at_int HR0.out x8 c5 c4
     cases e101
     have p101 := eq_true c5
     have q101 := eq_true c4
     clear c5 c4
     replace H := Option.bind_eq_some_iff.mp H
     obtain ⟨t102, A70, H⟩ := H
     have A7 := am_ A70
     clear A70
     by_cases c8 : t102 = true
     ·subst c8
      have H1 : some x8 = some r := by rw [if_pos rfl] at H; exact H
      clear H
      obtain rfl := Option.some.inj H1
      clear H1
      go_wp2_with (go_at_call 93; refine (HP.out _ (rd l0 x8) true y51_ A7.out).mono ?_; rintro e w' ⟨rfl, ⟨nd, rfl⟩⟩)
      go_ret
      exact ⟨by first | rfl | (simp; done) | (simp [*]; done), by repeat (first | exact Drawn0.refl _ | apply Drawn0.step)⟩
     ·replace c8 := Bool.eq_false_iff.mpr c8
      subst c8
      have H1 : impl_without.idx k1 p l0 (wrap64 (x8 + 1)) = some r := by rw [if_neg (show ¬ (false = true) by decide)] at H; exact H
      clear H
      have H' := am_ H1
      clear H1
      go_wp2_with (go_at_call 93; refine (HP.out _ (rd l0 x8) false y51_ A7.out).mono ?_; rintro e w' ⟨rfl, ⟨nd, rfl⟩⟩)
      go_roundg k1
      case measure => have := HK1.out; omega
      case rel => exact ⟨(wrap64 (x8 + 1)), y53_, H', ⟨by have := HK1.out; omega⟩, by repeat (first | exact Drawn0.refl _ | apply Drawn0.step)⟩
    ·rw [if_neg c5] at H
     exact absurd H (by simp)
   ·rw [if_neg c4] at H
    have c4b0 : decide (x8 < (l0.length : Int)) = false := decide_eq_false c4
    clear c4
    obtain rfl := Option.some.inj H
    go_wp2
    go_ret
    exact ⟨by first | rfl | (simp; done) | (simp [*]; done), by repeat (first | exact Drawn0.refl _ | apply Drawn0.step)⟩
theorem impl_without.ixv (q : Int → Bool) (l : List Int) (hl : l.length ≤ 1099511627776) : ∀ d i, i + d = l.length → ∃ t, impl_without.idx (d + 1) (fun x => some (q x)) l (i : Int) = some t ∧ ((t = -1 ∧ (l.drop i).filter (fun x => !q x) = l.drop i) ∨ ∃ m : Nat, t = ((i + m : Nat) : Int) ∧ i + m < l.length ∧ q (rd l ((i + m : Nat) : Int)) = true ∧ ((l.drop i).take m).filter (fun x => !q x) = (l.drop i).take m)
 | 0, i, h => ⟨-1, by rw [impl_without.idx, if_neg (by omega)], Or.inl ⟨rfl, by rw [List.drop_eq_nil_of_le (by omega)]; rfl⟩⟩
 | d + 1, i, h => by
  have hi : i < l.length := by omega
  have er : rd l (i : Int) = l[i] := by unfold rd; rw [Int.toNat_natCast, List.getD_eq_getElem?_getD, List.getElem?_eq_getElem hi]; rfl
  obtain ⟨t, h1, h2⟩ := impl_without.ixv q l hl d (i + 1) (by omega)
  rw [impl_without.idx, if_pos (by omega), if_pos (by omega), impl_without.w1 i (by omega), Option.bind_some]
  cases c : q (rd l (i : Int)) with
  | true => exact ⟨_, rfl, Or.inr ⟨0, by simp, by omega, by simpa using c, by simp⟩⟩
  | false =>
   refine ⟨t, h1, ?_⟩
   rw [List.drop_eq_getElem_cons hi]
   rw [er] at c
   rcases h2 with ⟨rfl, h2⟩ | ⟨m, rfl, hm, hq, h2⟩
   ·exact Or.inl ⟨rfl, by rw [List.filter_cons_of_pos (by rw [c]; rfl), h2]⟩
   ·refine Or.inr ⟨m + 1, by congr 1; omega, by omega, by rw [show i + (m + 1) = i + 1 + m by omega]; exact hq, ?_⟩
    rw [List.take_succ_cons, List.filter_cons_of_pos (by rw [c]; rfl), h2]
theorem impl_without.wr {n : Nat} {x : Int} (h : x < (n : Int)) (hn : n ≤ 1099511627776) (h0 : 0 ≤ x) : wrap64 (x + 1) = x + 1 := by unfold wrap64; omega
def impl_without.Kp (q : Int → Bool) (l dk : List Int) (i j : Nat) : Prop := dk.length = l.length ∧ i < j ∧ j ≤ l.length ∧ dk.take i = (l.take j).filter (fun x => !q x) ∧ dk.drop j = l.drop j
theorem impl_without.Kp_at {q : Int → Bool} {l dk : List Int} {i j : Nat} (h : impl_without.Kp q l dk i j) (hj : j < l.length) : rd dk (j : Int) = l[j] := by
 obtain ⟨h1, _, _, _, h5⟩ := h
 rw [List.drop_eq_getElem_cons hj, List.drop_eq_getElem_cons (by omega)] at h5
 unfold rd; rw [Int.toNat_natCast, List.getD_eq_getElem?_getD, List.getElem?_eq_getElem (by omega)]
 exact (List.cons.inj h5).1
theorem impl_without.Kp_skip {q : Int → Bool} {l dk : List Int} {i j : Nat} (h : impl_without.Kp q l dk i j) (hj : j < l.length) (hq : q (rd dk (j : Int)) = true) : impl_without.Kp q l dk i (j + 1) := by
 rw [impl_without.Kp_at h hj] at hq
 obtain ⟨h1, h2, h3, h4, h5⟩ := h
 refine ⟨h1, by omega, by omega, ?_, ?_⟩
 ·rw [h4, List.take_succ_eq_append_getElem hj, List.filter_append, List.filter_cons_of_neg (by rw [hq]; simp), List.filter_nil, List.append_nil]
 ·rw [List.drop_eq_getElem_cons hj, List.drop_eq_getElem_cons (by omega)] at h5
  exact (List.cons.inj h5).2
theorem impl_without.Kp_keep {q : Int → Bool} {l dk : List Int} {i j : Nat} (h : impl_without.Kp q l dk i j) (hj : j < l.length) (hq : q (rd dk (j : Int)) = false) : impl_without.Kp q l (dk.set i (rd dk (j : Int))) (i + 1) (j + 1) := by
 have hr := impl_without.Kp_at h hj
 rw [hr] at hq ⊢
 obtain ⟨h1, h2, h3, h4, h5⟩ := h
 refine ⟨by rw [List.length_set]; exact h1, by omega, by omega, ?_, ?_⟩
 ·rw [List.take_succ_eq_append_getElem (by rw [List.length_set]; omega), List.getElem_set_self, List.take_set_of_le (Nat.le_refl i), h4, List.take_succ_eq_append_getElem hj, List.filter_append, List.filter_cons_of_pos (by rw [hq]; rfl), List.filter_nil]
 ·rw [List.drop_set_of_lt (by omega)]
  rw [List.drop_eq_getElem_cons hj, List.drop_eq_getElem_cons (by omega)] at h5
  exact (List.cons.inj h5).2
theorem impl_without.Kp_start {q : Int → Bool} {l : List Int} {m : Nat} (h1 : m < l.length) (h2 : q (rd l (m : Int)) = true) (h3 : (l.take m).filter (fun x => !q x) = l.take m) : impl_without.Kp q l l m (m + 1) := by
 have er : rd l (m : Int) = l[m] := by unfold rd; rw [Int.toNat_natCast, List.getD_eq_getElem?_getD, List.getElem?_eq_getElem h1]; rfl
 rw [er] at h2
 exact ⟨rfl, Nat.lt_succ_self _, h1, by rw [List.take_succ_eq_append_getElem h1, List.filter_append, List.filter_cons_of_neg (by rw [h2]; simp), List.filter_nil, List.append_nil, h3], rfl⟩
theorem impl_without.cleared {W : World} {base g n cap i : Nat} {ok : Nat → Prop} {xs : List Int} (h : Kd.R (Kd.int .i64) 3 W base ok (.slice (some ⟨g, 0, none⟩) n cap) xs) (hi : i ≤ n) (zs : List Value) (hz : i + zs.length ≤ n) :
  Kd.R (Kd.int .i64) 3 (W.setCells g i zs) base ok (.slice (some ⟨g, 0, none⟩) i cap) (xs.take i) ∧ W.grownBy (W.setCells g i zs) (some g) := by
 obtain ⟨hn, hc, _⟩ := Kd.R_reads' h
 have h2 := Kd.R_take (m := i) h (by omega)
 have hl : (xs.take i).length = i := by rw [List.length_take]; omega
 generalize xs.take i = ys at h2 hl ⊢
 subst hl
 have ho := Kd.own_of_R h2
 obtain ⟨s1, s2, s3, s4⟩ := setCells_same g zs ys.length W
 have hg : W.grownBy (W.setCells g ys.length zs) (some g) := ⟨s1, s2, s3, by rw [s4]; exact Nat.le_refl _, fun k _ hk => setCells_far zs _ k (fun e => hk (by rw [e]))⟩
 refine ⟨Kd.R_of_own ?_ h2.1, hg⟩
 rcases ho.2 with ⟨hv, _⟩ | ⟨g', cap', cur, hv, hbg, hh, hnc, hcm, hcs, htake⟩
 ·cases hv
 ·injection hv with ha _ hcc
  injection ha with ha
  injection ha with hgg
  subst hgg; subst hcc
  obtain ⟨cur', h3, h4, h5⟩ := setCells_row zs ys.length W cur hh (by omega)
  refine ⟨ho.1, Or.inr ⟨g, cap, cur', rfl, hbg, h3, hnc, hcm, by rw [h4, hcs], ?_⟩⟩
  rw [Nat.mul_one] at htake ⊢
  rw [h5, List.append_assoc, List.take_append_of_le_length (by rw [List.length_take]; have : cur.toList.length = cur.size := Array.length_toList; omega), List.take_take, Nat.min_self]
  exact htake
theorem impl_without.cut_from {P : Program} (t e : TypeId) (kl : IntKind) {i : TypeInfo} (ht : P.underlying t = some (.slice e)) (hi : P.info? e = some i) (hsz : i.size = 1) (g n c : Nat) (j : Int) (h0 : 0 ≤ j) (hm : j.toNat < n) (hc : n ≤ c) :
  ∀ W : World, (Instr.slice t (.slice (some ⟨g, 0, none⟩) n c) (some (.int kl j)) none none).run P W = .ok (.slice (some ⟨g, j.toNat, none⟩) (n - j.toNat) (c - j.toNat)) W := by
 intro W
 have hel : P.elem t = e := by simp [Program.elem, ht]
 have hu : P.underlying t = some (.slice (P.elem t)) := by rw [hel]; exact ht
 rw [run_slice_l W t _ n c hu kl j h0 (by omega), hel]
 have hcj : ¬ (c = j.toNat) := by omega
 simp [sizeOf, typeInfo, hi, hsz, sliced, Result.andThen, hcj, Addr.add]
 omega
theorem impl_without.below_grow {b g : Nat} {w0 w w1 : World} (h : Below b w0 w) (hg : w.grownBy w1 (some g)) (hb : b ≤ g) (hs : b ≤ w.heap.size) : Below b w0 w1 := h.grown hg hs (fun k hk => by injection hk with hk; omega)
set_option maxHeartbeats 8000000 in
set_option maxRecDepth 100000 in
theorem impl_without.del (B : Nat) (q : Int → Bool) (A0 : Option Addr) (c0 n0 : Nat) (l0 : List Int) (w0 w : World) (hp : ∀ (W : World) (x : Int), Below w0.heap.size w0 W → Calls Try.prog 93 #[.int .i64 x, .pointer (some ⟨B, 0, none⟩)] W fun e w' => e = .returned (.bool (q x)) ∧ Drawn0 W w') (hB : Below w0.heap.size w0 w) (hR : Kd.R (Kd.int .i64) 3 w w0.heap.size (fun _ => True) (.slice A0 n0 c0) l0) (hl : l0.length ≤ 1099511627776) :
  Calls Try.prog 92 #[.slice A0 n0 c0, .func (.func 93) #[] #[.pointer (some ⟨B, 0, none⟩)]] w fun e w' => ∃ v, e = .returned v ∧ Kd.R (Kd.int .i64) 3 w' w0.heap.size (fun _ => True) v (l0.filter (fun x => !q x)) ∧ Below w0.heap.size w0 w' := by
 obtain ⟨hn, hc, hC⟩ := Kd.R_reads' hR
 subst hn
 have HR := am_ hR
 have HC := am_ hC
 have HB := am_ hB
 have HP := am_ hp
 have HL := am_ hl
 obtain ⟨t, h1, h2⟩ := impl_without.ixv q l0 hl l0.length 0 (by omega)
 have A7 := am_ (show impl_without.idx (l0.length + 1) (fun x => some (q x)) l0 0 = some t from h1)
 have HI := am_ (show ∀ (W : World) (x : Int) (v : Bool), Drawn0 w W → some (q x) = some v → Calls Try.prog 93 #[.int .i64 x, .pointer (some ⟨B, 0, none⟩)] W fun e w' => e = .returned (.bool v) ∧ Drawn0 W w' from fun W x v hW hv => by obtain rfl := Option.some.inj hv; exact hp W x (below_step hB hW.below))
 have eg := fun args w => enters_ (P := Try.prog) Try.func93 (by kernel_rfl) rfl args w
 have eg2 := fun args w => enters_ (P := Try.prog) Try.func90 (by kernel_rfl) rfl args w
 rw [List.drop_zero] at h2
 rcases h2 with ⟨ht, h2⟩ | ⟨m, ht, hm, hq, h2⟩
 ·subst ht
  rw [h2]
  clear hR hc hC hB hp hl h1 h2
  go_enter Try.func92, Try.ntmps92
  go_wp2_with (go_at_call 90; refine (impl_without.idx_calls (l0.length + 1) B (fun x => some (q x)) A0 c0 l0 (-1) _ HI.out HC.out A7.out).mono ?_; rintro e w' ⟨rfl, ⟨nd, rfl⟩⟩)
  go_ret
  exact ⟨_, rfl, (rq_ HR.out), (bq_)⟩
 ·rw [Nat.zero_add] at ht hm hq
  have K0 := am_ (impl_without.Kp_start hm hq h2)
  obtain ⟨g, cap, ea, gb, gl, cells, hcells⟩ := Kd.R_form hR (by omega)
  injection ea with ea _ ec
  subst ea; subst ec
  have GB := am_ gb
  have HM := am_ hm
  obtain ⟨t_, ht_⟩ : ∃ t_ : Int, t = t_ := ⟨_, rfl⟩
  have e0 : (t == -1) = false := beq_eq_false_iff_ne.mpr (by omega)
  have T0 := am_ (show 0 ≤ t ∧ t < (l0.length : Int) ∧ t.toNat = m from by omega)
  clear hR hc hC hB hp hl h1 h2 hq gb gl hcells ht_ cells ht hm t_
  go_enter Try.func92, Try.ntmps92
  go_wp2_with (go_at_call 90; refine (impl_without.idx_calls (l0.length + 1) B (fun x => some (q x)) _ c0 l0 t _ HI.out HC.out A7.out).mono ?_; rintro e w' ⟨rfl, ⟨nd, rfl⟩⟩)
  go_loopg [5, 6, 7] l0.length (fun gg s5 s6 _ wr => ∃ (i j : Int) (dk : List Int), s5 = .int .i64 i ∧ s6 = .int .i64 j ∧ Aside0 (0 ≤ i ∧ 0 ≤ j ∧ impl_without.Kp q l0 dk i.toNat j.toNat) ∧ Aside0 (l0.length - j.toNat ≤ gg) ∧ Aside0 (Kd.R (Kd.int .i64) 3 wr w0.heap.size (fun _ => True) (.slice (some ⟨g, 0, none⟩) l0.length c0) dk) ∧ Aside0 (Below w0.heap.size w0 wr))
  case atStart =>
   refine ⟨t, wrap64 (t + 1), l0, y53_, y53_, ⟨?_⟩, ⟨by omega⟩, ⟨(rq_ HR.out)⟩, ⟨(bq_)⟩⟩
   obtain ⟨a1, a2, a3⟩ := T0.out
   rw [impl_without.wr a2 HL.out a1, a3, show (t + 1).toNat = m + 1 by omega]
   exact ⟨a1, by omega, K0.out⟩
  case round =>
   clear A7 HI HR HC HB K0 T0 e0
   obtain ⟨i, j, dk, rfl, rfl, HK, HG, HR, HB⟩ := hrel
   obtain ⟨i0, j0, hk⟩ := HK.out
   obtain ⟨k1, k2, k3, k4, k5⟩ := hk
   by_cases c1 : j < (l0.length : Int)
   ·have c1b0 : decide (j < (l0.length : Int)) = true := decide_eq_true c1
    have p1 : 0 ≤ j := j0
    have q1 := c1
    obtain ⟨hx1, hf1⟩ := Kd.R_celln 0 HR.out j j0 c1
    obtain ⟨hx2, hf2⟩ := Kd.R_celln 0 HR.out i i0 (by omega)
    have er : rdOf 0 dk j = rd dk j := rfl
    rw [er] at hx1
    have p2 : 0 ≤ i := i0
    have q2 : i < (l0.length : Int) := by omega
    have HP13 := am_ (Kd.R_putg HR.out i (rd dk j))
    have HN := am_ (show i + 1 ≤ (l0.length : Int) ∧ j < (l0.length : Int) ∧ j.toNat < l0.length from by omega)
    have HQ := am_ (HP.out wr (rd dk j) HB.out)
    clear c1 k1 k2 k3 k4 k5 er
    replace p1 := eq_true p1
    replace q1 := eq_true q1
    replace p2 := eq_true p2
    replace q2 := eq_true q2
    generalize hu : rd dk j = u at hx1 HP13 HQ
    have HU := am_ hu
    clear hu
    cases hqu : q u with
    | true =>
     rw [hqu] at HQ
     clear HP13 hx2 hf2
     go_wp2_with (go_at_call 93; refine HQ.out.mono ?_; rintro e w' ⟨rfl, ⟨nd2, rfl⟩⟩)
     go_roundg (l0.length - (j.toNat + 1))
     case measure => have := HG.out; have := HN.out; omega
     case rel =>
      have hj : wrap64 (j + 1) = j + 1 := impl_without.wr HN.out.2.1 HL.out j0
      refine ⟨i, wrap64 (j + 1), dk, rfl, y53_, ⟨i0, by omega, ?_⟩, ⟨by omega⟩, ⟨(rq_ HR.out)⟩, ⟨(bq_)⟩⟩
      rw [hj, show (j + 1).toNat = j.toNat + 1 by omega]
      exact impl_without.Kp_skip HK.out.2.2 HN.out.2.2 (by rw [Int.toNat_of_nonneg j0, HU.out]; exact hqu)
    | false =>
     rw [hqu] at HQ
     go_wp2_with (first | (go_at_call 93; refine HQ.out.mono ?_; rintro e w' ⟨rfl, ⟨nd2, rfl⟩⟩) | ((with_reducible refine gate_store (t := 3) (p := 33) rfl ?_); refine store_event (t := 3) (p := 33) (v := ?vo_w14) (w1 := ((wr.drewN nd2).setCell ⟨g, i.toNat, none⟩ (.int .i64 u))) ?hg ?ho ?hn ?hr ?_; (case ho => rfl); (case hg => rfl); (case hn => rfl); (case hr => first | (go_simp; done) | (go_simp; rfl)); intro w14 hw; have n2_ := am_ (Kd.R_putg (Kd.R_drewN HR.out nd2) i u); have n0_ := am_ (show Kd.R (Kd.int .i64) 3 w14 w0.heap.size (fun _ => True) (.slice (some ⟨g, 0, none⟩) l0.length c0) (dk.set i.toNat u) from (by rw [hw]; exact n2_.out.1)); have n1_ := am_ (show Below w0.heap.size w0 w14 from (by rw [hw]; exact below_set (pw_below_drewN HB.out nd2) GB.out)); clear hw n2_ HB; have HB := n1_; clear n1_ HP13 HR; have HR := n0_; clear n0_ hx1 hf1 hx2 hf2))
     go_roundg (l0.length - (j.toNat + 1))
     case measure => have := HG.out; have := HN.out; omega
     case rel =>
      have hj : wrap64 (j + 1) = j + 1 := impl_without.wr HN.out.2.1 HL.out j0
      have hi : wrap64 (i + 1) = i + 1 := by have := HN.out; have := HL.out; unfold wrap64; omega
      refine ⟨wrap64 (i + 1), wrap64 (j + 1), dk.set i.toNat u, y53_, y53_, ⟨by omega, by omega, ?_⟩, ⟨by omega⟩, ⟨(rq_ HR.out)⟩, ⟨(bq_)⟩⟩
      rw [hj, hi, show (j + 1).toNat = j.toNat + 1 by omega, show (i + 1).toNat = i.toNat + 1 by omega]
      have := impl_without.Kp_keep HK.out.2.2 HN.out.2.2 (by rw [Int.toNat_of_nonneg j0, HU.out]; exact hqu)
      rw [Int.toNat_of_nonneg j0, HU.out] at this
      exact this
   ·have c1b0 : decide (j < (l0.length : Int)) = false := decide_eq_false c1
    have hj : j.toNat = l0.length := by omega
    have hin : i.toNat ≤ l0.length := by omega
    rw [hj] at k4
    rw [List.take_length] at k4
    have HE := am_ k4
    have HD := am_ (impl_without.cleared HR.out hin (List.replicate (l0.length - i.toNat) (.int .i64 0)) (by rw [List.length_replicate]; omega))
    obtain ⟨i03, hi03, hz03, hsz03, hby03⟩ := info_parts info3
    have hs1 := impl_without.cut_from (P := Try.prog) 43 3 .i64 Try.underlying43 hi03 hsz03 g l0.length c0 i i0 (by omega) (by have := (Kd.R_reads' HR.out).2.1; omega)
    have hs2 := cut_to (P := Try.prog) 43 3 .i64 Try.underlying43 hi03 (some ⟨g, 0, none⟩) l0.length c0 i i0 (by omega) (by have := (Kd.R_reads' HR.out).2.1; omega)
    have hcl : ∀ ty, (Builtin.clear_ #[43] ty #[.slice (some ⟨g, i.toNat, none⟩) (l0.length - i.toNat) (c0 - i.toNat)]).run Try.prog wr = .ok (.tuple #[]) (wr.setCells g i.toNat (List.replicate (l0.length - i.toNat) (.int .i64 0))) := fun ty => Lib.run_clear_slice wr 43 3 ty (.int .i64 0) Try.underlying43 (fun _ => rfl) rfl rfl g i.toNat (l0.length - i.toNat) (c0 - i.toNat) (by omega)
     (fun t ht => by have := (Kd.R_celln 0 HR.out ((i.toNat + t : Nat) : Int) (by omega) (by omega)).1; rw [Int.toNat_natCast] at this; rw [this]; rfl)
     (fun t ht => by have := (Kd.R_celln 0 HR.out ((i.toNat + t : Nat) : Int) (by omega) (by omega)).2; rw [Int.toNat_natCast] at this; exact this)
    clear c1 k1 k2 k3 k4 k5 hj hin hi03 hz03 hsz03 hby03 HK
    go_wp2
    go_ret
    exact ⟨_, rfl, by rw [← HE.out]; exact HD.out.1, impl_without.below_grow HB.out HD.out.2 GB.out (below_size HB.out)⟩
def impl_without.f (l0 l1 : List Int) : Option (List Int) := if l0.length ≤ 1099511627776 ∧ l1.length ≤ 1099511627776 then some (l0.filter (fun x => !l1.contains (wrap64 (-x)))) else none
set_option maxHeartbeats 8000000 in
set_option maxRecDepth 100000 in
theorem impl_without.calls (A0 : Option Addr) (c0 : Nat) (l0 : List Int) (A1 : Option Addr) (c1 : Nat) (l1 : List Int) (r : List Int) (w : World) (hr0 : Kd.C (Kd.int .i64) w A0 l0.length l0) (hc0 : l0.length ≤ c0) (hr1 : Kd.C (Kd.int .i64) w A1 l1.length l1) (hc1 : l1.length ≤ c1) (h : impl_without.f l0 l1 = some r) :
  Calls Try.prog 81 #[.slice A0 l0.length c0, .slice A1 l1.length c1] w fun e w' => ∃ v0_ : Value, e = .returned (v0_) ∧ Kd.R (Kd.int .i64) 3 w' w.heap.size (fun _ => True) v0_ r ∧ Below w.heap.size w w' := by
 unfold impl_without.f at h
 by_cases hl : l0.length ≤ 1099511627776 ∧ l1.length ≤ 1099511627776
 ·rw [if_pos hl] at h
  obtain rfl := Option.some.inj h
  have HL := am_ hl
  have HR0 := am_ hr0
  have HC0 := am_ hc0
  have HR1 := am_ hr1
  have HC1 := am_ hc1
  have HB := am_ (Below.refl w.heap.size w)
  have A8 := am_ (show slices_Clone_int_int.f 0 l0 = some l0 from if_pos hl.1)
  clear hr0 hc0 hr1 hc1 h hl
  have eg := fun args w => enters_ (P := Try.prog) Try.func92 (by kernel_rfl) rfl args w
  have eg2 := fun args w => enters_ (P := Try.prog) Try.func79 (by kernel_rfl) rfl args w
  go_enter Try.func81, Try.ntmps81
  go_wp2_with (first | ((with_reducible refine gate_dst (N := 3) rfl ?_); refine boxq_ (N := 3) (cs := #[.slice A1 l1.length c1]) (t := 43) ?_; intro gb hg w27 hbox hb; have BK := am_ hbox; replace HB := bs_ hb; clear hg hbox hb; have hcz0 := cq_ BK.out 0 (.slice A1 l1.length c1)) | (go_at_call 79; refine (slices_Clone_int_int.calls 0 A0 c0 l0 l0 _ (Kd.C_below HR0.out (bq_)) HC0.out A8.out).mono ?_; rintro e w28 ⟨vc, rfl, ho, hb⟩; obtain ⟨Ac, cc, ec⟩ := Kd.R_slice ho; subst ec; have HO := am_ ho; have HB2 := am_ hb; clear ho hb) | (go_at_call 92; refine (impl_without.del gb (fun x => l1.contains (wrap64 (-x))) Ac cc l0.length l0 w27 w28 (fun W x hW => impl_without.np_calls A1 c1 l1 gb x W ((Below.cell hW (World.block_lt_of_cell? w27 _ hcz0)).trans hcz0) HC1.out HL.out.2 (Kd.C_below (Kd.C_below HR1.out HB.out) hW)) HB2.out HO.out HL.out.1).mono ?_; rintro e w29 ⟨vf, rfl, hf, hb⟩; have HF := am_ (Kd.R_lower hf (below_size HB.out)); replace HB := am_ (below_step HB.out hb); clear hf hb))
  go_ret
  exact ⟨_, by first | rfl | (simp; done) | (simp [*]; done), HF.out, HB.out⟩
 ·rw [if_neg hl] at h
  cases h
def impl_propagate.scan : List (List Int) → List Int → Option (Option Int)
 | [], _ => none
 | c :: t, out => if c.any out.contains = true then impl_propagate.scan t out else
   match c.filter (fun x => !out.contains (wrap64 (-x))) with
   | [] => some none
   | [n] => some (some n)
   | _ :: _ :: _ => impl_propagate.scan t out
theorem impl_propagate.scan_meet {c : List Int} {t : List (List Int)} {out : List Int} (h : c.any out.contains = true) : impl_propagate.scan (c :: t) out = impl_propagate.scan t out := if_pos h
theorem impl_propagate.scan_none {c : List Int} {t : List (List Int)} {out : List Int} (h : ¬ c.any out.contains = true) (e : c.filter (fun x => !out.contains (wrap64 (-x))) = []) : impl_propagate.scan (c :: t) out = some none := by rw [impl_propagate.scan, if_neg h, e]
theorem impl_propagate.scan_one {c : List Int} {t : List (List Int)} {out : List Int} {n : Int} (h : ¬ c.any out.contains = true) (e : c.filter (fun x => !out.contains (wrap64 (-x))) = [n]) : impl_propagate.scan (c :: t) out = some (some n) := by rw [impl_propagate.scan, if_neg h, e]
theorem impl_propagate.scan_more {c : List Int} {t : List (List Int)} {out : List Int} {n m : Int} {s : List Int} (h : ¬ c.any out.contains = true) (e : c.filter (fun x => !out.contains (wrap64 (-x))) = n :: m :: s) : impl_propagate.scan (c :: t) out = impl_propagate.scan t out := by rw [impl_propagate.scan, if_neg h, e]
def impl_propagate.ok (l : List (List Int)) (out : List Int) : Bool := decide (out.length < 1099511627776) && decide (l.length < 1099511627776) && l.all (fun c => decide (c.length ≤ 1099511627776))
def impl_propagate.l0 : Nat → List (List Int) → List Int → Option (List Int × Bool)
 | 0, _, _ => none
 | k + 1, l, out => if impl_propagate.ok l out = true then (match impl_propagate.scan l out with
   | none => some (out, false)
   | some none => some (out, true)
   | some (some n) => impl_propagate.l0 k l (out ++ [n])) else none
def impl_propagate.f (k : Nat) (l0 : List (List Int)) (l1 : List Int) : Option (List Int × Bool) := if l1.length ≤ 1099511627776 then impl_propagate.l0 k l0 l1 else none
theorem impl_propagate.w1 {x : Int} {n : Nat} (h : x < (n : Int)) (hn : n < 1099511627776) (h0 : 0 ≤ x) : wrap64 (x + 1) = x + 1 := by unfold wrap64; omega
theorem impl_propagate.drop {l : List (List Int)} {i : Int} (h0 : 0 ≤ i) (h1 : i < (l.length : Int)) : l.drop i.toNat = rd_L2 l i :: l.drop (i.toNat + 1) := by
 have hi : i.toNat < l.length := by omega
 rw [List.drop_eq_getElem_cons hi]
 congr 1
 unfold rd_L2
 rw [List.getD_eq_getElem?_getD, List.getElem?_eq_getElem hi]; rfl
theorem impl_propagate.len {l : List (List Int)} {i : Int} (h0 : 0 ≤ i) (h1 : i < (l.length : Int)) (h : ∀ c, c ∈ l → c.length ≤ 1099511627776) : (rd_L2 l i).length ≤ 1099511627776 := by
 have hi : i.toNat < l.length := by omega
 unfold rd_L2
 rw [List.getD_eq_getElem?_getD, List.getElem?_eq_getElem hi]
 exact h _ (List.getElem_mem hi)
set_option maxHeartbeats 8000000 in
set_option maxRecDepth 100000 in
theorem impl_propagate.calls (k : Nat) (A0 : Option Addr) (c0 : Nat) (l0 : List (List Int)) (A1 : Option Addr) (c1 : Nat) (l1 : List Int) (r1 : List Int) (r2 : Bool) (w : World) (hr0 : Kd.C (Kd.slice 3 (Kd.int .i64)) w A0 l0.length l0) (hc0 : l0.length ≤ c0) (hr1 : Kd.C (Kd.int .i64) w A1 l1.length l1) (hc1 : l1.length ≤ c1) (h : impl_propagate.f k l0 l1 = some (r1, r2)) :
  Calls Try.prog 60 #[.slice A0 l0.length c0, .slice A1 l1.length c1] w fun e w' => ∃ v0_ : Value, e = .returned (.tuple #[v0_, .bool r2]) ∧ Kd.R (Kd.int .i64) 3 w' w.heap.size (fun _ => True) v0_ r1 ∧ Below w.heap.size w w' := by
 unfold impl_propagate.f at h
 by_cases hl : l1.length ≤ 1099511627776
 ·rw [if_pos hl] at h
  have H' := am_ h
  have A8 := am_ (show slices_Clone_int_int.f 0 l1 = some l1 from if_pos hl)
  have HR0 := am_ hr0
  have HR1 := am_ hr1
  have HC1 := am_ hc1
  have HB := am_ (Below.refl w.heap.size w)
  clear h hl hr0 hr1 hc0 hc1
  have eg1 := fun args w => enters_ (P := Try.prog) Try.func79 (by kernel_rfl) rfl args w
  have eg2 := fun args w => enters_ (P := Try.prog) Try.func80 (by kernel_rfl) rfl args w
  have eg3 := fun args w => enters_ (P := Try.prog) Try.func81 (by kernel_rfl) rfl args w
  go_enter Try.func60, Try.ntmps60
  go_wp2_with (go_at_call 79; refine (slices_Clone_int_int.calls 0 A1 c1 l1 l1 _ (Kd.C_below HR1.out (bq_)) HC1.out A8.out).mono ?_; rintro e w28 ⟨vc, rfl, ho, hb⟩; have HO := am_ (Kd.R_lower ho (below_size (bq_))); replace HB := bs_ hb; clear ho hb)
  go_loopg [6] k (fun kq v6 w' => ∃ (out : List Int), Aside0 (impl_propagate.l0 kq l0 out = some (r1, r2)) ∧ Aside0 (kq ≤ k) ∧ Aside0 (Kd.R (Kd.int .i64) 3 w' w.heap.size (fun _ => True) v6 out) ∧ Aside0 (Below w.heap.size w w'))
  case atStart => exact ⟨l1, H', ⟨Nat.le_refl _⟩, ⟨rq_ HO.out⟩, ⟨bq_⟩⟩
  case round =>
   clear H' HB HO A8
   obtain ⟨out, HA, HK1, HO, HB⟩ := hrel
   cases gk with
   | zero => exact absurd HA.out (by simp [impl_propagate.l0])
   | succ k1 =>
    have H := HA.out
    clear HA
    simp only [impl_propagate.l0] at H
    by_cases c1 : impl_propagate.ok l0 out = true
    ·rw [if_pos c1] at H
     have HS := am_ H
     clear H
     have HL := am_ (show out.length < 1099511627776 ∧ l0.length < 1099511627776 ∧ ∀ c, c ∈ l0 → c.length ≤ 1099511627776 from by
      simp only [impl_propagate.ok, Bool.and_eq_true, decide_eq_true_eq, List.all_eq_true] at c1
      exact ⟨c1.1.1, c1.1.2, c1.2⟩)
     clear c1
     obtain ⟨Ao, co, eo⟩ := Kd.R_slice HO.out
     subst eo
     go_wp2
     go_loopg [6, 7, 15] l0.length (fun g v6 v7 v15 w' => ∃ (i : Int), v6 = .slice Ao out.length co ∧ v7 = .bool false ∧ v15 = .int .i64 i ∧ Aside0 (0 ≤ i ∧ i ≤ (l0.length : Int) ∧ impl_propagate.scan (l0.drop i.toNat) out = impl_propagate.scan l0 out) ∧ Aside0 (l0.length - i.toNat ≤ g) ∧ Aside0 (Kd.R (Kd.int .i64) 3 w' w.heap.size (fun _ => True) (.slice Ao out.length co) out) ∧ Aside0 (Below w.heap.size w w'))
     case atStart => exact ⟨0, rfl, rfl, y53_, ⟨Int.le_refl _, Int.natCast_nonneg _, rfl⟩, ⟨Nat.le_refl _⟩, ⟨rq_ HO.out⟩, ⟨bq_⟩⟩
     case round =>
      clear HB HO
      obtain ⟨i, rfl, rfl, rfl, HI0, HG, HO, HB⟩ := hrel
      by_cases c6 : i < (l0.length : Int)
      ·have c6b0 : decide (i < (l0.length : Int)) = true := decide_eq_true c6
       have c7 : 0 ≤ i := HI0.out.1
       have hsc := HI0.out.2.2
       rw [impl_propagate.drop c7 c6] at hsc
       have HN := am_ (show i < (l0.length : Int) ∧ 0 ≤ i ∧ wrap64 (i + 1) = i + 1 ∧ (i + 1).toNat = i.toNat + 1 from ⟨c6, c7, impl_propagate.w1 c6 HL.out.2.1 c7, by omega⟩)
       have hlen := impl_propagate.len c7 c6 HL.out.2.2
       obtain ⟨ad, A2, c2, e195, hx195_0, hl1, hi1⟩ := at_L2 (Kd.C_below HR0.out HB.out) i c7 c6
       cases e195
       have p102 := eq_true c7
       have q102 := eq_true c6
       have HI := am_ hi1
       have HL1 := am_ hl1
       clear c6 c7 hl1 hi1
       by_cases m : (rd_L2 l0 i).any out.contains = true
       ·have A7 := am_ (show impl_meets.f (rd_L2 l0 i) out = some true from by rw [← m]; exact if_pos ⟨hlen, Nat.le_of_lt HL.out.1⟩)
        rw [impl_propagate.scan_meet m] at hsc
        have HC := am_ hsc
        clear hsc m hlen
        go_wp2_with (go_at_call 80; refine (impl_meets.calls A2 c2 (rd_L2 l0 i) Ao co out true _ (cm_ HI.out) HL1.out (Kd.R_reads' (rq_ HO.out)).2.2 (Kd.R_reads' HO.out).2.1 A7.out).mono ?_; rintro e w31 ⟨rfl, hb⟩; replace HB := bs_ hb; replace HO := am_ (Kd.R_below (rq_ HO.out) hb); replace HI := am_ (Kd.C_below (cm_ HI.out) hb); clear hb)
        go_roundg (l0.length - (i.toNat + 1))
        case measure => have := HG.out; have := HN.out; omega
        case rel =>
         obtain ⟨n1, n2, n3, n4⟩ := HN.out
         refine ⟨wrap64 (i + 1), rfl, rfl, y53_, ⟨?_⟩, ⟨?_⟩, ⟨rq_ HO.out⟩, ⟨bq_⟩⟩
         ·rw [n3, n4]; exact ⟨by omega, by omega, HC.out⟩
         ·rw [n3, n4]; exact Nat.le_refl _
       ·have A7 := am_ (show impl_meets.f (rd_L2 l0 i) out = some false from by rw [← Bool.eq_false_iff.mpr m]; exact if_pos ⟨hlen, Nat.le_of_lt HL.out.1⟩)
        obtain ⟨left, hleft⟩ : ∃ left, (rd_L2 l0 i).filter (fun x => !out.contains (wrap64 (-x))) = left := ⟨_, rfl⟩
        have A8 := am_ (show impl_without.f (rd_L2 l0 i) out = some left from by rw [← hleft]; exact if_pos ⟨hlen, Nat.le_of_lt HL.out.1⟩)
        clear hlen
        rcases (show left = [] ∨ (∃ n, left = [n]) ∨ ∃ n m s, left = n :: m :: s from by
         rcases left with _ | ⟨n, _ | ⟨m, s⟩⟩
         ·exact Or.inl rfl
         ·exact Or.inr (Or.inl ⟨n, rfl⟩)
         ·exact Or.inr (Or.inr ⟨n, m, s, rfl⟩)) with hd | ⟨n, hd⟩ | ⟨n, n', s, hd⟩
        ·rw [impl_propagate.scan_none m (hleft.trans hd)] at hsc
         have H := HS.out
         rw [← hsc] at H
         obtain ⟨e1, e2⟩ := Prod.mk.inj (Option.some.inj H)
         subst e1
         subst e2
         have e0 : ((left.length : Int) == 0) = true := by rw [hd]; rfl
         clear hsc m hleft hd H HS
         go_wp2_with (first | (go_at_call 80; refine (impl_meets.calls A2 c2 (rd_L2 l0 i) Ao co out false _ (cm_ HI.out) HL1.out (Kd.R_reads' (rq_ HO.out)).2.2 (Kd.R_reads' HO.out).2.1 A7.out).mono ?_; rintro e w31 ⟨rfl, hb⟩; replace HB := bs_ hb; replace HO := am_ (Kd.R_below (rq_ HO.out) hb); replace HI := am_ (Kd.C_below (cm_ HI.out) hb); clear hb) | (go_at_call 81; refine (impl_without.calls A2 c2 (rd_L2 l0 i) Ao co out left _ (cm_ HI.out) HL1.out (Kd.R_reads' (rq_ HO.out)).2.2 (Kd.R_reads' HO.out).2.1 A8.out).mono ?_; rintro e w32 ⟨vl, rfl, hf, hb⟩; obtain ⟨Al, cl, el⟩ := Kd.R_slice hf; subst el; replace HB := bs_ hb; replace HO := am_ (Kd.R_below (rq_ HO.out) hb); clear HI hb hf))
         go_ret2
         exact ⟨_, y53_, rq_ HO.out, bq_⟩
        ·rw [impl_propagate.scan_one m (hleft.trans hd)] at hsc
         have H := HS.out
         rw [← hsc] at H
         have H' := am_ (show impl_propagate.l0 k1 l0 (out ++ [n]) = some (r1, r2) from H)
         have HE := am_ hd
         have e0 : ((left.length : Int) == 0) = false := by rw [hd]; rfl
         have e1 : ((left.length : Int) == 1) = true := by rw [hd]; rfl
         have e2 : (0 : Int) < (left.length : Int) := by rw [hd]; exact Int.zero_lt_one
         have e3 : decide ((0 : Int) < (left.length : Int)) = true := decide_eq_true e2
         replace e2 := eq_true e2
         have e4 := eq_true (show 0 < left.length from by rw [hd]; exact Nat.zero_lt_one)
         clear hsc m hleft hd H HS
         go_wp2_with (first | (go_at_call 80; refine (impl_meets.calls A2 c2 (rd_L2 l0 i) Ao co out false _ (cm_ HI.out) HL1.out (Kd.R_reads' (rq_ HO.out)).2.2 (Kd.R_reads' HO.out).2.1 A7.out).mono ?_; rintro e w31 ⟨rfl, hb⟩; replace HB := bs_ hb; replace HO := am_ (Kd.R_below (rq_ HO.out) hb); replace HI := am_ (Kd.C_below (cm_ HI.out) hb); clear hb) | (go_at_call 81; refine (impl_without.calls A2 c2 (rd_L2 l0 i) Ao co out left _ (cm_ HI.out) HL1.out (Kd.R_reads' (rq_ HO.out)).2.2 (Kd.R_reads' HO.out).2.1 A8.out).mono ?_; rintro e w32 ⟨vl, rfl, hf, hb⟩; obtain ⟨Al, cl, el⟩ := Kd.R_slice hf; subst el; have n0_ := bs_ hb; have n1_ := am_ (Kd.R_below (rq_ HO.out) hb); have n3_ := Kd.R_form hf (by rw [HE.out]; exact Nat.zero_lt_one); obtain ⟨g2, cap2, e2, _, _, _⟩ := n3_; injection e2 with e2 _ _; subst e2; have hx2 : w32.cell? ⟨g2, 0, none⟩ = some (.int .i64 n) := (by have n4_ := (Kd.R_celln 0 hf 0 (Int.le_refl _) (by rw [HE.out]; exact Int.zero_lt_one)).1; rw [HE.out] at n4_; exact n4_); clear HB HO HI hb hf; have HB := n0_; have HO := n1_; clear n0_ n1_) | ((with_reducible refine gate_builtin (b := .append) (xs := #[.tmp 32, .tmp 36]) rfl ?_); at_builtin; refine Kd.R_append (Kd.int .i64) (w0 := w) w.heap.size rfl (.tmp 32) (.tmp 36) 43 3 (.int .i64 0) 8 rfl Try.underlying43 info3 rfl (by decide) (by omega) (.slice Ao out.length co) out n [.int .i64 n] (fun _ => True) (fun _ => False) rfl rfl ?aP (fun _ hk => hk.elim) ?aF ?aO ?aB ?aS ?aL ?_; (case aP => exact rfl); (case aB => exact (bq_)); (case aF => exact (fun _ _ => trivial)); (case aO => exact (rq_ HO.out)); (case aS => exact (below_size (bq_))); (case aL => have := HL.out; omega); intro v6n w33 ho hb hg hat; replace HB := am_ hb; replace HO := am_ ho; clear ho hb hg hat))
         go_roundg k1
         case measure => have := HK1.out; omega
         case rel => exact ⟨out ++ [n], H', ⟨by have := HK1.out; omega⟩, ⟨rq_ HO.out⟩, ⟨bq_⟩⟩
        ·rw [impl_propagate.scan_more m (hleft.trans hd)] at hsc
         have HC := am_ hsc
         have e0 : ((left.length : Int) == 0) = false := by rw [hd]; exact beq_eq_false_iff_ne.mpr (by simp only [List.length_cons]; omega)
         have e1 : ((left.length : Int) == 1) = false := by rw [hd]; exact beq_eq_false_iff_ne.mpr (by simp only [List.length_cons]; omega)
         clear hsc m hleft hd
         go_wp2_with (first | (go_at_call 80; refine (impl_meets.calls A2 c2 (rd_L2 l0 i) Ao co out false _ (cm_ HI.out) HL1.out (Kd.R_reads' (rq_ HO.out)).2.2 (Kd.R_reads' HO.out).2.1 A7.out).mono ?_; rintro e w31 ⟨rfl, hb⟩; replace HB := bs_ hb; replace HO := am_ (Kd.R_below (rq_ HO.out) hb); replace HI := am_ (Kd.C_below (cm_ HI.out) hb); clear hb) | (go_at_call 81; refine (impl_without.calls A2 c2 (rd_L2 l0 i) Ao co out left _ (cm_ HI.out) HL1.out (Kd.R_reads' (rq_ HO.out)).2.2 (Kd.R_reads' HO.out).2.1 A8.out).mono ?_; rintro e w32 ⟨vl, rfl, hf, hb⟩; obtain ⟨Al, cl, el⟩ := Kd.R_slice hf; subst el; replace HB := bs_ hb; replace HO := am_ (Kd.R_below (rq_ HO.out) hb); clear HI hb hf))
         go_roundg (l0.length - (i.toNat + 1))
         case measure => have := HG.out; have := HN.out; omega
         case rel =>
          obtain ⟨n1, n2, n3, n4⟩ := HN.out
          refine ⟨wrap64 (i + 1), rfl, rfl, y53_, ⟨?_⟩, ⟨?_⟩, ⟨rq_ HO.out⟩, ⟨bq_⟩⟩
          ·rw [n3, n4]; exact ⟨by omega, by omega, HC.out⟩
          ·rw [n3, n4]; exact Nat.le_refl _
      ·have c6b0 : decide (i < (l0.length : Int)) = false := decide_eq_false c6
       have hi : i.toNat = l0.length := by have := HI0.out; omega
       have hsc := HI0.out.2.2
       rw [hi, List.drop_length] at hsc
       have H := HS.out
       rw [← hsc] at H
       obtain ⟨e1, e2⟩ := Prod.mk.inj (Option.some.inj (show some (out, false) = some (r1, r2) from H))
       subst e1
       subst e2
       clear c6 hi hsc H HS
       go_wp2
       go_ret2
       exact ⟨_, y53_, rq_ HO.out, bq_⟩
    ·rw [if_neg c1] at H
     cases H
 ·rw [if_neg hl] at h
  cases h
def impl_Propagate.f (k : Nat) (a0 : Int) (l1 : List (List Int)) (l2 : List Int) : Option (List Int × Bool × Bool) := (impl_GoodClauses.f k a0 l1).bind fun t455 => (if t455 = true then ((impl_isClause.f k l2 a0).bind fun t456 => (if t456 = true then ((impl_propagate.f k l1 l2).bind fun bt457 => (some (bt457.1, bt457.2, true))) else (some (([] : List Int), false, false)))) else (some (([] : List Int), false, false)))
set_option maxHeartbeats 8000000 in
set_option maxRecDepth 100000 in
theorem impl_Propagate.calls (k : Nat) (a0 : Int) (A1 : Option Addr) (c1 : Nat) (l1 : List (List Int)) (A2 : Option Addr) (c2 : Nat) (l2 : List Int) (r1 : List Int) (r2 : Bool) (r3 : Bool) (w : World) (hr1 : Kd.C (Kd.slice 3 (Kd.int .i64)) w A1 l1.length l1) (hc1 : l1.length ≤ c1) (hr2 : Kd.C (Kd.int .i64) w A2 l2.length l2) (hc2 : l2.length ≤ c2) (h : impl_Propagate.f k a0 l1 l2 = some (r1, r2, r3)) :
  Calls Try.prog 23 #[.int .i64 a0, .slice A1 l1.length c1, .slice A2 l2.length c2] w fun e w' => ∃ v0_ : Value, e = .returned (.tuple #[v0_, .bool r2, .bool r3]) ∧ Kd.R (Kd.int .i64) 3 w' w.heap.size (fun _ => True) v0_ r1 ∧ Below w.heap.size w w' := by
 have HR1 := am_ hr1
 have HC1 := am_ hc1
 clear hr1 hc1
 have HR2 := am_ hr2
 have HC2 := am_ hc2
 clear hr2 hc2
 have HB := am_ (Below.refl w.heap.size w)
 have H : ((impl_GoodClauses.f k a0 l1).bind fun t455 => (if t455 = true then ((impl_isClause.f k l2 a0).bind fun t456 => (if t456 = true then ((impl_propagate.f k l1 l2).bind fun bt457 => (some (bt457.1, bt457.2, true))) else (some (([] : List Int), false, false)))) else (some (([] : List Int), false, false)))) = some (r1, r2, r3) := h
 clear h
 replace H := Option.bind_eq_some_iff.mp H
 obtain ⟨t455, A40, H⟩ := H
 replace H : (if t455 = true then ((impl_isClause.f k l2 a0).bind fun t456 => (if t456 = true then ((impl_propagate.f k l1 l2).bind fun bt457 => (some (bt457.1, bt457.2, true))) else (some (([] : List Int), false, false)))) else (some (([] : List Int), false, false))) = some (r1, r2, r3) := H
 have A4 := am_ A40
 clear A40
 by_cases c5 : t455 = true
 ·subst c5
  have H1 : ((impl_isClause.f k l2 a0).bind fun t456 => (if t456 = true then ((impl_propagate.f k l1 l2).bind fun bt457 => (some (bt457.1, bt457.2, true))) else (some (([] : List Int), false, false)))) = some (r1, r2, r3) := by rw [if_pos rfl] at H; exact H
  clear H
  have H := H1
  clear H1
  replace H := Option.bind_eq_some_iff.mp H
  obtain ⟨t456, A60, H⟩ := H
  replace H : (if t456 = true then ((impl_propagate.f k l1 l2).bind fun bt457 => (some (bt457.1, bt457.2, true))) else (some (([] : List Int), false, false))) = some (r1, r2, r3) := H
  have A6 := am_ A60
  clear A60
  by_cases c7 : t456 = true
  ·subst c7
   have H1 : ((impl_propagate.f k l1 l2).bind fun bt457 => (some (bt457.1, bt457.2, true))) = some (r1, r2, r3) := by rw [if_pos rfl] at H; exact H
   clear H
   have H := H1
   clear H1
   replace H := Option.bind_eq_some_iff.mp H
   obtain ⟨⟨t457, t458⟩, A80, H⟩ := H
   replace H : (some (t457, t458, true)) = some (r1, r2, r3) := H
   have A8 := am_ A80
   clear A80
   simp only [Option.some.injEq, Prod.mk.injEq] at H
   obtain ⟨rfl, rfl, rfl⟩ := H
   go_enter Try.func23, Try.ntmps23
   go_wp2_with (first | ((with_reducible refine gl_ 58 rfl ?_); refine goesM_ (some 13) Try.func58 #[.int .i64 a0, .slice A1 l1.length c1] ?_; (with_reducible refine (impl_GoodClauses.calls k a0 _ _ l1 true _ ?side1 ?side2 A4.out).mono ?_); (case side1 => exact cm_ HR1.out); (case side2 => exact HC1.out); rintro e w9 ⟨rfl, hb⟩; refine ⟨_, rfl, ?_⟩; replace HB := bs_ hb; (try clear hb)) | (go_at_call 59; (with_reducible refine (impl_isClause.calls k _ _ l2 a0 true _ ?side1 ?side2 A6.out).mono ?_); (case side1 => exact cm_ (Kd.C_below HR2.out HB.out)); (case side2 => exact HC2.out); rintro e w10 ⟨rfl, hb⟩; replace HB := bs_ hb; (try clear hb)) | ((with_reducible refine gl_ 60 rfl ?_); refine goesM_ (some 24) Try.func60 #[.slice A1 l1.length c1, .slice A2 l2.length c2] ?_; (with_reducible refine (impl_propagate.calls k _ _ l1 _ _ l2 t457 t458 _ ?side1 ?side2 ?side3 ?side4 A8.out).mono ?_); (case side1 => exact cm_ (Kd.C_below HR1.out HB.out)); (case side2 => exact HC1.out); (case side3 => exact cm_ (Kd.C_below HR2.out HB.out)); (case side4 => exact HC2.out); rintro e w11 ⟨v459, rfl, ho0, hb⟩; refine ⟨_, rfl, ?_⟩; have HO460 := am_ (Kd.R_lower ho0 (below_size (bq_))); replace HB := bs_ hb; (try clear hb); (try clear ho0)))
   go_ret3
   exact ⟨_, by first | rfl | (simp [errW_none, errW_some] <;> rfl) | (simp [*, errW_none, errW_some] <;> rfl), rq_ HO460.out, bq_⟩
  ·replace c7 := Bool.eq_false_iff.mpr c7
   subst c7
   have H1 : (some (([] : List Int), false, false)) = some (r1, r2, r3) := by rw [if_neg (show ¬ (false = true) by decide)] at H; exact H
   clear H
   have H := H1
   clear H1
   simp only [Option.some.injEq, Prod.mk.injEq] at H
   obtain ⟨rfl, rfl, rfl⟩ := H
   go_enter Try.func23, Try.ntmps23
   go_wp2_with (first | ((with_reducible refine gl_ 58 rfl ?_); refine goesM_ (some 13) Try.func58 #[.int .i64 a0, .slice A1 l1.length c1] ?_; (with_reducible refine (impl_GoodClauses.calls k a0 _ _ l1 true _ ?side1 ?side2 A4.out).mono ?_); (case side1 => exact cm_ HR1.out); (case side2 => exact HC1.out); rintro e w12 ⟨rfl, hb⟩; refine ⟨_, rfl, ?_⟩; replace HB := bs_ hb; (try clear hb)) | (go_at_call 59; (with_reducible refine (impl_isClause.calls k _ _ l2 a0 false _ ?side1 ?side2 A6.out).mono ?_); (case side1 => exact cm_ (Kd.C_below HR2.out HB.out)); (case side2 => exact HC2.out); rintro e w13 ⟨rfl, hb⟩; replace HB := bs_ hb; (try clear hb)))
   go_ret3
   exact ⟨_, by first | rfl | (simp [errW_none, errW_some] <;> rfl) | (simp [*, errW_none, errW_some] <;> rfl), by first | exact Kd.R_nil _ _ _ _ _ | exact Kd.N_nil _ _ _ _ _ | exact Kd.V_nil _ _ _ _ _ | exact Kd.Q_nil _ _ _ _ _ | exact Kd.S_nil _ _ _ _ _, bq_⟩
 ·replace c5 := Bool.eq_false_iff.mpr c5
  subst c5
  have H1 : (some (([] : List Int), false, false)) = some (r1, r2, r3) := by rw [if_neg (show ¬ (false = true) by decide)] at H; exact H
  clear H
  have H := H1
  clear H1
  simp only [Option.some.injEq, Prod.mk.injEq] at H
  obtain ⟨rfl, rfl, rfl⟩ := H
  go_enter Try.func23, Try.ntmps23
  go_wp2_with (first | ((with_reducible refine gl_ 58 rfl ?_); refine goesM_ (some 13) Try.func58 #[.int .i64 a0, .slice A1 l1.length c1] ?_; (with_reducible refine (impl_GoodClauses.calls k a0 _ _ l1 false _ ?side1 ?side2 A4.out).mono ?_); (case side1 => exact cm_ HR1.out); (case side2 => exact HC1.out); rintro e w14 ⟨rfl, hb⟩; refine ⟨_, rfl, ?_⟩; replace HB := bs_ hb; (try clear hb)))
  go_ret3
  exact ⟨_, by first | rfl | (simp [errW_none, errW_some] <;> rfl) | (simp [*, errW_none, errW_some] <;> rfl), by first | exact Kd.R_nil _ _ _ _ _ | exact Kd.N_nil _ _ _ _ _ | exact Kd.V_nil _ _ _ _ _ | exact Kd.Q_nil _ _ _ _ _ | exact Kd.S_nil _ _ _ _ _, bq_⟩
end Go.Proofs.Ytgahidilhjijiaa.PGG
