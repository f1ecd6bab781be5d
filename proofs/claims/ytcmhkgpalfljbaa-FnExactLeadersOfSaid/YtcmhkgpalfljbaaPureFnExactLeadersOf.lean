/- Proved here: the pure statement of the law FnExactLeadersOf: what the printed functions compute answers true. Conditions: the statement's own bounds. -/
import Derived.Test.YtcmhkgpalfljbaaPILx1
import Derived.Test.YtcmhkgpalfljbaaPILx2
import Derived.Test.YtcmhkgpalfljbaaPILx3
import Derived.Test.YtcmhkgpalfljbaaPILx4
import Derived.Test.YtcmhkgpalfljbaaPILx5
import Derived.Test.YtcmhkgpalfljbaaPILx6
import Derived.Test.YtcmhkgpalfljbaaPILx7
import Derived.Test.YtcmhkgpalfljbaaPILx8
namespace Go.Proofs.Ytcmhkgpalfljbaa.Pure
open Go Go.RowKit Go.Proofs.Ytcmhkgpalfljbaa.PIL Go.Proofs.YtcmhkgpalfljbaaW.PrintWords Go.Proofs.YtcmhkgpalfljbaaW.PrintLast Go.Proofs.YtcmhkgpalfljbaaW.PrintMore
set_option linter.unusedVariables false
set_option linter.unusedSimpArgs false

/-- A number lies between two. -/
def In (a lo hi : Int) : Bool := decide (lo ≤ a) && decide (a ≤ hi)
theorem In_true {a lo hi : Int} : In a lo hi = true ↔ lo ≤ a ∧ a ≤ hi := by simp [In]
theorem In_false {a lo hi : Int} : In a lo hi = false ↔ ¬ (lo ≤ a ∧ a ≤ hi) := by rw [← In_true]; simp
theorem In_ite {a lo hi : Int} : (if a ≥ lo then some (decide (a ≤ hi)) else some false) = some (In a lo hi) := by
  unfold In; by_cases h : lo ≤ a <;> simp [h]
theorem spec_l1In_eq (a b c : Int) : spec_l1In.f a b c = some (In a b c) := by unfold spec_l1In.f; exact In_ite

theorem impl_in_eq (a b c : Int) : impl_in.f a b c = some (In a b c) := by unfold impl_in.f; exact In_ite

theorem Ev.pos {α : Type} {c : Prop} [Decidable c] {A B : Nat → Option α} {r : α} (h : c) (e : Ev A r) : Ev (fun k => if c then A k else B k) r := Ev.congr (fun _ => if_pos h) e
theorem Ev.neg {α : Type} {c : Prop} [Decidable c] {A B : Nat → Option α} {r : α} (h : ¬ c) (e : Ev B r) : Ev (fun k => if c then A k else B k) r := Ev.congr (fun _ => if_neg h) e
theorem Ev.bindE {α β : Type} {g : Option α} {f : Nat → α → Option β} {a : α} {r : β} (h : g = some a) (k : Ev (fun n => f n a) r) : Ev (fun n => g.bind (f n)) r := by subst h; exact k
theorem Ev.at_ {α : Type} {g : Nat → Option α} {r r' : α} (h : Ev g r) (e : r = r') : Ev g r' := e ▸ h
theorem Ev.one {α : Type} {g : Nat → Option α} {r r' : α} (h : Ev g r) (h' : Ev g r') : r = r' := by
  obtain ⟨K, h⟩ := h; obtain ⟨K', h'⟩ := h'
  have a := h (max K K') (by omega); have b := h' (max K K') (by omega)
  rw [a] at b; exact Option.some.inj b
/-- Two texts come to one answer, of which P holds. -/
def Both {α : Type} (P : α → Prop) (g f : Nat → Option α) : Prop := ∃ r, Ev g r ∧ Ev f r ∧ P r
theorem Both.now {α : Type} {P : α → Prop} (r : α) (h : P r) : Both P (fun _ => some r) (fun _ => some r) := ⟨r, Ev.now r, Ev.now r, h⟩
theorem Both.congrL {α : Type} {P : α → Prop} {g g' f : Nat → Option α} (e : ∀ k, g k = g' k) (h : Both P g' f) : Both P g f := by obtain ⟨r, a, b, c⟩ := h; exact ⟨r, a.congr e, b, c⟩
theorem Both.congrR {α : Type} {P : α → Prop} {g f f' : Nat → Option α} (e : ∀ k, f k = f' k) (h : Both P g f') : Both P g f := by obtain ⟨r, a, b, c⟩ := h; exact ⟨r, a, b.congr e, c⟩
theorem Both.posL {α : Type} {P : α → Prop} {c : Prop} [Decidable c] {A B f : Nat → Option α} (h : c) (e : Both P A f) : Both P (fun k => if c then A k else B k) f := e.congrL (fun _ => if_pos h)
theorem Both.negL {α : Type} {P : α → Prop} {c : Prop} [Decidable c] {A B f : Nat → Option α} (h : ¬ c) (e : Both P B f) : Both P (fun k => if c then A k else B k) f := e.congrL (fun _ => if_neg h)
theorem Both.posR {α : Type} {P : α → Prop} {c : Prop} [Decidable c] {A B f : Nat → Option α} (h : c) (e : Both P f A) : Both P f (fun k => if c then A k else B k) := e.congrR (fun _ => if_pos h)
theorem Both.negR {α : Type} {P : α → Prop} {c : Prop} [Decidable c] {A B f : Nat → Option α} (h : ¬ c) (e : Both P f B) : Both P f (fun k => if c then A k else B k) := e.congrR (fun _ => if_neg h)
theorem Both.ite {α : Type} {P : α → Prop} {c : Prop} [Decidable c] {A B A' B' : Nat → Option α} (h1 : c → Both P A A') (h2 : ¬ c → Both P B B') : Both P (fun k => if c then A k else B k) (fun k => if c then A' k else B' k) := by
  by_cases h : c
  · exact ((h1 h).posL h).posR h
  · exact ((h2 h).negL h).negR h
theorem Both.bindL {α β : Type} {P : β → Prop} {g : Nat → Option α} {F : Nat → α → Option β} {f : Nat → Option β} {a : α} (h : Ev g a) (e : Both P (fun k => F k a) f) : Both P (fun k => (g k).bind (F k)) f := by obtain ⟨r, x, y, c⟩ := e; exact ⟨r, Ev.bind h x, y, c⟩
theorem Both.bindR {α β : Type} {P : β → Prop} {g : Nat → Option α} {F : Nat → α → Option β} {f : Nat → Option β} {a : α} (h : Ev g a) (e : Both P f (fun k => F k a)) : Both P f (fun k => (g k).bind (F k)) := by obtain ⟨r, x, y, c⟩ := e; exact ⟨r, x, Ev.bind h y, c⟩
theorem w1 (i : Nat) (h : i < 4611686018427387904) : wrap64 ((i : Int) + 1) = ((i + 1 : Nat) : Int) := by unfold wrap64; omega
theorem wrap_id (x : Int) (h0 : -9223372036854775808 ≤ x) (h1 : x ≤ 9223372036854775807) : wrap64 x = x := by unfold wrap64; omega
theorem rd_nat (l : List Int) (i : Nat) (h : i < l.length) : rd l (i : Int) = l[i] := by unfold rd; simp [List.getD, h]
theorem set_take {α : Type} (l : List α) (i : Nat) (v : α) (h : i < l.length) : (l.set i v).take (i + 1) = l.take i ++ [v] := by
  rw [List.take_succ_eq_append_getElem (by simpa using h), List.take_set_of_le (Nat.le_refl i)]; simp

theorem Stepa_nat (l : List S53) (i : Nat) (h : i < l.length) : rd_T53 l (i : Int) = l[i] := by unfold rd_T53; simp [List.getD, h]
theorem Stepb_nat (l : List S51) (i : Nat) (h : i < l.length) : rd_T51 l (i : Int) = l[i] := by unfold rd_T51; simp [List.getD, h]

theorem toStep_eq (a0 a1 a2 a3 a4 a5 : Int) : laws_toStep.f a0 a1 a2 a3 a4 a5 = some (a0, a1, a2, a3, a4, a5) := rfl

def cvStep (x : S53) : S51 := ⟨x.f0, x.f1, x.f2, x.f3, x.f4, x.f5⟩
theorem toStepS_loop (l : List S53) (hl : l.length ≤ 1099511627776) : ∀ (d i : Nat) (acc : List S51), i + d = l.length → acc.length = l.length → acc.take i = (l.take i).map cvStep → Ev (fun k => laws_toStepS.l0 k l acc (i : Int)) (l.map cvStep)
  | 0, i, acc, hi, ha, ht => by
    refine Ev.step (fun k => laws_toStepS.l0.eq_2 ..) ?_
    refine Ev.neg (by omega) ?_
    rw [List.take_of_length_le (by omega), List.take_of_length_le (by omega)] at ht
    rw [ht]; exact Ev.now _
  | d + 1, i, acc, hi, ha, ht => by
    refine Ev.step (fun k => laws_toStepS.l0.eq_2 ..) ?_
    refine Ev.pos (by omega) (Ev.pos (by omega) (Ev.bindE (toStep_eq ..) (Ev.pos (by omega) ?_)))
    rw [w1 i (by omega), Int.toNat_natCast]
    refine toStepS_loop l hl d (i + 1) _ (by omega) (by simpa using ha) ?_
    rw [set_take _ _ _ (by omega), ht, List.take_succ_eq_append_getElem (show i < l.length by omega), List.map_append]
    rw [Stepa_nat l i (by omega)]; rfl
theorem toStepS_ev (l : List S53) (hl : l.length ≤ 1048576) : Ev (fun k => laws_toStepS.f k l) (l.map cvStep) := by
  unfold laws_toStepS.f
  refine Ev.pos (by omega) (Ev.pos (by omega) ?_)
  exact toStepS_loop l (by omega) l.length 0 _ (by omega) (by simp) (by simp)

theorem szStepS_ok (l : List S53) (a : Int) (h : (l.length : Int) ≤ a) (ha : a ≤ 1048576) : laws_szStepS.f l a = some (a - l.length) := by
  unfold laws_szStepS.f; rw [wrap_id _ (by omega) (by omega), if_neg (by omega)]
theorem szStepS_big (l : List S53) (a : Int) (h : a < (l.length : Int)) (ha : a ≤ 1048576) (h0 : 0 ≤ a) (hl : l.length ≤ maxLen) : laws_szStepS.f l a = some (-1) := by
  unfold maxLen at hl; unfold laws_szStepS.f; rw [wrap_id _ (by omega) (by omega), if_pos (by omega)]

theorem eqStep_self (a0 a1 a2 a3 a4 a5 : Int) : laws_eqStep.f a0 a1 a2 a3 a4 a5 a0 a1 a2 a3 a4 a5 = some true := by unfold laws_eqStep.f; simp
theorem eqStepS_loop (l : List S51) (hl : l.length ≤ 1099511627776) : ∀ (d i : Nat), i + d = l.length → Ev (fun k => laws_eqStepS.l0 k l l (i : Int)) true
  | 0, i, hi => by
    refine Ev.step (fun k => laws_eqStepS.l0.eq_2 ..) ?_
    exact Ev.neg (by omega) (Ev.now _)
  | d + 1, i, hi => by
    refine Ev.step (fun k => laws_eqStepS.l0.eq_2 ..) ?_
    refine Ev.pos (by omega) (Ev.pos (by omega) (Ev.pos (by omega) (Ev.bindE (eqStep_self ..) (Ev.pos rfl ?_))))
    rw [w1 i (by omega)]
    exact eqStepS_loop l hl d (i + 1) (by omega)
theorem eqStepS_self (l : List S51) (hl : l.length ≤ 1099511627776) : Ev (fun k => laws_eqStepS.f k l l) true := by
  unfold laws_eqStepS.f
  exact Ev.pos rfl (eqStepS_loop l hl l.length 0 (by omega))

theorem Stepb_set (l : List S51) (i : Nat) (v : S51) (h : i < l.length) : rd_T51 (l.set i v) (i : Int) = v := by
  rw [Stepb_nat _ _ (by simpa using h)]; simp
def mkStep (m : Int) (n : Nat) : List S51 := (List.range n).map (fun j : Nat => (⟨m + 6 * j + 0, m + 6 * j + 1, m + 6 * j + 2, m + 6 * j + 3, m + 6 * j + 4, m + 6 * j + 5⟩ : S51))
theorem markStepS_loop (n : Nat) (m : Int) (hl : n ≤ 1099511627776) (hm : 0 ≤ m ∧ m ≤ 1099511627776) : ∀ (d i : Nat) (acc : List S51), i + d = n → acc.length = n → acc.take i = (mkStep m n).take i → Ev (fun k => laws_markStepS.l0 k acc (m + 6 * (i : Int)) (i : Int)) (m + 6 * (n : Int), mkStep m n)
  | 0, i, acc, hi, ha, ht => by
    refine Ev.step (fun k => laws_markStepS.l0.eq_2 ..) ?_
    refine Ev.neg (by omega) ?_
    rw [List.take_of_length_le (by omega), List.take_of_length_le (by simp [mkStep]; omega)] at ht
    obtain rfl : i = n := by omega
    rw [ht]; exact Ev.now _
  | d + 1, i, acc, hi, ha, ht => by
    refine Ev.step (fun k => laws_markStepS.l0.eq_2 ..) ?_
    have hi' : i < acc.length := by omega
    refine Ev.pos (by omega) (Ev.pos (by omega) (Ev.bindE rfl (Ev.bindE rfl (Ev.bindE rfl (Ev.bindE rfl (Ev.bindE rfl ?_))))))
    simp only [Int.toNat_natCast, Stepb_set _ _ _ hi', List.set_set, List.length_set, wrap64]
    have hb : ∀ x : Int, 0 ≤ x → x < 9223372036854775808 → (x + 9223372036854775808) % 18446744073709551616 - 9223372036854775808 = x := fun x _ _ => by omega
    have e0 : (m + 6 * (i : Int)) = m + 6 * (i : Int) + 0 := by omega
    rw [hb (m + 6 * (i : Int) + 1) (by omega) (by omega), hb (m + 6 * (i : Int) + 1 + 1) (by omega) (by omega), hb (m + 6 * (i : Int) + 1 + 1 + 1) (by omega) (by omega), hb (m + 6 * (i : Int) + 1 + 1 + 1 + 1) (by omega) (by omega), hb (m + 6 * (i : Int) + 1 + 1 + 1 + 1 + 1) (by omega) (by omega), hb (m + 6 * (i : Int) + 1 + 1 + 1 + 1 + 1 + 1) (by omega) (by omega), hb ((i : Int) + 1) (by omega) (by omega)]
    rw [show ((i : Int) + 1) = ((i + 1 : Nat) : Int) by omega, show (m + 6 * (i : Int) + 1 + 1 + 1 + 1 + 1 + 1) = m + 6 * ((i + 1 : Nat) : Int) by omega]
    skip
    refine markStepS_loop n m hl hm d (i + 1) _ (by omega) (by simpa using ha) ?_
    rw [set_take _ _ _ hi', ht, List.take_succ_eq_append_getElem (l := mkStep m n) (by simp [mkStep]; omega)]
    simp [mkStep, Int.add_assoc]
theorem markStepS_ev (l : List S51) (m : Int) (hl : l.length ≤ 1099511627776) (hm : 0 ≤ m ∧ m ≤ 1099511627776) : Ev (fun k => laws_markStepS.f k l m) (m + 6 * (l.length : Int), mkStep m l.length) := by
  unfold laws_markStepS.f
  have h := markStepS_loop l.length m hl hm l.length 0 l (by omega) rfl (by simp)
  simpa using h

theorem eqIntS_loop (l : List Int) (hl : l.length ≤ 1099511627776) : ∀ (d i : Nat), i + d = l.length → Ev (fun k => laws_eqIntS.l0 k l l (i : Int)) true
  | 0, i, hi => by
    refine Ev.step (fun k => laws_eqIntS.l0.eq_2 ..) ?_
    exact Ev.neg (by omega) (Ev.now _)
  | d + 1, i, hi => by
    refine Ev.step (fun k => laws_eqIntS.l0.eq_2 ..) ?_
    refine Ev.pos (by omega) (Ev.pos (by omega) (Ev.pos (by omega) (Ev.pos rfl ?_)))
    rw [w1 i (by omega)]
    exact eqIntS_loop l hl d (i + 1) (by omega)
theorem eqIntS_self (l : List Int) (hl : l.length ≤ 1099511627776) : Ev (fun k => laws_eqIntS.f k l l) true := by
  unfold laws_eqIntS.f
  exact Ev.pos rfl (eqIntS_loop l hl l.length 0 (by omega))

def mkInt (m : Int) (n : Nat) : List Int := (List.range n).map (fun j : Nat => m + (j : Int))
theorem mkInt_len (m : Int) (n : Nat) : (mkInt m n).length = n := by simp [mkInt]
theorem markIntS_loop (n : Nat) (m : Int) (hl : n ≤ 1099511627776) (hm : 0 ≤ m ∧ m ≤ 1099511627776) : ∀ (d i : Nat) (acc : List Int), i + d = n → acc.length = n → acc.take i = (mkInt m n).take i → Ev (fun k => laws_markIntS.l0 k acc (m + (i : Int)) (i : Int)) (m + (n : Int), mkInt m n)
  | 0, i, acc, hi, ha, ht => by
    refine Ev.step (fun k => laws_markIntS.l0.eq_2 ..) ?_
    refine Ev.neg (by omega) ?_
    rw [List.take_of_length_le (by omega), List.take_of_length_le (by simp [mkInt]; omega)] at ht
    obtain rfl : i = n := by omega
    rw [ht]; exact Ev.now _
  | d + 1, i, acc, hi, ha, ht => by
    refine Ev.step (fun k => laws_markIntS.l0.eq_2 ..) ?_
    have hi' : i < acc.length := by omega
    refine Ev.pos (by omega) (Ev.pos (by omega) ?_)
    rw [w1 i (by omega), Int.toNat_natCast, show wrap64 (m + (i : Int) + 1) = m + ((i + 1 : Nat) : Int) by unfold wrap64; omega]
    refine markIntS_loop n m hl hm d (i + 1) _ (by omega) (by simpa using ha) ?_
    rw [set_take _ _ _ hi', ht, List.take_succ_eq_append_getElem (l := mkInt m n) (by simp [mkInt]; omega)]
    simp [mkInt]
theorem markIntS_ev (l : List Int) (m : Int) (hl : l.length ≤ 1099511627776) (hm : 0 ≤ m ∧ m ≤ 1099511627776) : Ev (fun k => laws_markIntS.f k l m) (m + (l.length : Int), mkInt m l.length) := by
  unfold laws_markIntS.f
  have h := markIntS_loop l.length m hl hm l.length 0 l (by omega) rfl (by simp)
  simpa using h

theorem heldIntS_loop (n : Nat) (m : Int) (hl : n ≤ 1099511627776) (hm : 0 ≤ m ∧ m ≤ 1099511627776) : ∀ (d i : Nat), i + d = n → Ev (fun k => laws_heldIntS.l0 k (mkInt m n) (m + (i : Int)) (i : Int)) (m + (n : Int))
  | 0, i, hi => by
    have hlen := mkInt_len m n
    refine Ev.step (fun k => laws_heldIntS.l0.eq_2 ..) ?_
    refine Ev.neg (by omega) ?_
    obtain rfl : i = n := by omega
    exact Ev.now _
  | d + 1, i, hi => by
    have hlen := mkInt_len m n
    refine Ev.step (fun k => laws_heldIntS.l0.eq_2 ..) ?_
    have hg : rd (mkInt m n) (i : Int) = (m + (i : Int)) := by rw [rd_nat _ i (by omega)]; simp [mkInt]
    refine Ev.pos (by omega) (Ev.pos (by omega) (Ev.pos hg ?_))
    rw [w1 i (by omega), show wrap64 (m + (i : Int) + 1) = m + ((i + 1 : Nat) : Int) by unfold wrap64; omega]
    exact heldIntS_loop n m hl hm d (i + 1) (by omega)
theorem heldIntS_ev (n : Nat) (m : Int) (hl : n ≤ 1099511627776) (hm : 0 ≤ m ∧ m ≤ 1099511627776) : Ev (fun k => laws_heldIntS.f k (mkInt m n) m) (m + (n : Int)) := by
  unfold laws_heldIntS.f
  have h := heldIntS_loop n m hl hm n 0 (by omega)
  simpa using h

/-- What is left of a step's validity, at the letters that are still to come: the code's own reading. -/
def rangeP (s0 L : Int) : Int × Int := if L = 111 then (1, 10) else if L = 100 ∨ L = 115 then (0, 5) else if L = 116 then (1, 19) else if s0 = 4 then (256, 65535) else if s0 = 5 then (0, 7) else (0, 255)
def vres (s0 s1 s2 s3 s4 s5 : Int) : List Int → Int → Int → Int → Int → Int → Bool
  | [], r1, r2, r3, r4, r5 => In s0 1 11 && ((0 : Int) == 0 && (r1 == 0 && (r2 == 0 && (r3 == 0 && (r4 == 0 && (r5 == 0))))))
  | L :: Ls, r1, r2, r3, r4, r5 => In (impl_Step_valid.fld L s1 s2 s3 s4 s5) (rangeP s0 L).1 (rangeP s0 L).2 && vres s0 s1 s2 s3 s4 s5 Ls (if L = 111 then 0 else r1) (if L = 111 then r2 else if L = 100 then 0 else r2) (if L = 111 then r3 else if L = 100 then r3 else if L = 115 then 0 else r3) (if L = 111 then r4 else if L = 100 then r4 else if L = 115 then r4 else if L = 105 then 0 else r4) (if L = 111 then r5 else if L = 100 then r5 else if L = 115 then r5 else if L = 105 then r5 else 0)
def letP (s0 : Int) : List Int := if s0 = 1 then [111, 100, 115] else if s0 = 2 then [111, 100, 105] else if s0 = 3 ∨ s0 = 4 ∨ s0 = 6 ∨ s0 = 7 then [100, 105] else if s0 = 5 then [100, 115, 105] else if s0 = 8 then [116] else if s0 = 9 ∨ s0 = 10 then [100, 115, 116] else []
def VS (s0 s1 s2 s3 s4 s5 : Int) : Bool := vres s0 s1 s2 s3 s4 s5 (letP s0) s1 s2 s3 s4 s5
/-- The same, said at once. -/
def VK (s0 s1 s2 s3 s4 s5 : Int) : Bool :=
  if s0 = 1 then In s1 1 10 && In s2 0 5 && In s3 0 5 && (s4 == 0) && (s5 == 0)
  else if s0 = 2 then In s1 1 10 && In s2 0 5 && (s3 == 0) && In s4 0 255 && (s5 == 0)
  else if s0 = 3 ∨ s0 = 6 ∨ s0 = 7 then (s1 == 0) && In s2 0 5 && (s3 == 0) && In s4 0 255 && (s5 == 0)
  else if s0 = 4 then (s1 == 0) && In s2 0 5 && (s3 == 0) && In s4 256 65535 && (s5 == 0)
  else if s0 = 5 then (s1 == 0) && In s2 0 5 && In s3 0 5 && In s4 0 7 && (s5 == 0)
  else if s0 = 8 then (s1 == 0) && (s2 == 0) && (s3 == 0) && (s4 == 0) && In s5 1 19
  else if s0 = 9 ∨ s0 = 10 then (s1 == 0) && In s2 0 5 && In s3 0 5 && (s4 == 0) && In s5 1 19
  else if s0 = 11 then (s1 == 0) && (s2 == 0) && (s3 == 0) && (s4 == 0) && (s5 == 0)
  else false
theorem VS_eq (s0 s1 s2 s3 s4 s5 : Int) : VS s0 s1 s2 s3 s4 s5 = VK s0 s1 s2 s3 s4 s5 := by
  have big : s0 ≠ 1 → s0 ≠ 2 → s0 ≠ 3 → s0 ≠ 4 → s0 ≠ 5 → s0 ≠ 6 → s0 ≠ 7 → s0 ≠ 8 → s0 ≠ 9 → s0 ≠ 10 → s0 ≠ 11 → In s0 1 11 = false := by
    intros; rw [In_false]; omega
  unfold VS
  by_cases h1 : s0 = 1
  · subst h1; simp [VK, letP, vres, rangeP, impl_Step_valid.fld, In, Bool.and_assoc]
  by_cases h2 : s0 = 2
  · subst h2; simp [VK, letP, vres, rangeP, impl_Step_valid.fld, In, Bool.and_assoc, Bool.and_comm, Bool.and_left_comm]
  by_cases h3 : s0 = 3
  · subst h3; simp [VK, letP, vres, rangeP, impl_Step_valid.fld, In, Bool.and_assoc, Bool.and_comm, Bool.and_left_comm]
  by_cases h4 : s0 = 4
  · subst h4; simp [VK, letP, vres, rangeP, impl_Step_valid.fld, In, Bool.and_assoc, Bool.and_comm, Bool.and_left_comm]
  by_cases h5 : s0 = 5
  · subst h5; simp [VK, letP, vres, rangeP, impl_Step_valid.fld, In, Bool.and_assoc, Bool.and_comm, Bool.and_left_comm]
  by_cases h6 : s0 = 6
  · subst h6; simp [VK, letP, vres, rangeP, impl_Step_valid.fld, In, Bool.and_assoc, Bool.and_comm, Bool.and_left_comm]
  by_cases h7 : s0 = 7
  · subst h7; simp [VK, letP, vres, rangeP, impl_Step_valid.fld, In, Bool.and_assoc, Bool.and_comm, Bool.and_left_comm]
  by_cases h8 : s0 = 8
  · subst h8; simp [VK, letP, vres, rangeP, impl_Step_valid.fld, In, Bool.and_assoc, Bool.and_comm, Bool.and_left_comm]
  by_cases h9 : s0 = 9
  · subst h9; simp [VK, letP, vres, rangeP, impl_Step_valid.fld, In, Bool.and_assoc, Bool.and_comm, Bool.and_left_comm]
  by_cases h10 : s0 = 10
  · subst h10; simp [VK, letP, vres, rangeP, impl_Step_valid.fld, In, Bool.and_assoc, Bool.and_comm, Bool.and_left_comm]
  by_cases h11 : s0 = 11
  · subst h11; simp [VK, letP, vres, rangeP, impl_Step_valid.fld, In, Bool.and_assoc, Bool.and_comm, Bool.and_left_comm]
  · have := big h1 h2 h3 h4 h5 h6 h7 h8 h9 h10 h11
    simp [VK, letP, vres, h1, h2, h3, h4, h5, h6, h7, h8, h9, h10, h11, this]

theorem ranges_ev (s0 s1 s2 s3 s4 s5 L : Int) : Ev (fun k => impl_Step_ranges.f k s0 s1 s2 s3 s4 s5 L) (rangeP s0 L) := by
  have j : ∀ x : Bool, (x = true ↔ (L = 100 ∨ L = 115)) → L ≠ 111 → Ev (fun k => impl_Step_ranges.j0 k L x s0 s1 s2 s3 s4 s5) (rangeP s0 L) := by
    intro x hx h1
    unfold rangeP
    rw [if_neg h1]
    refine Ev.step (fun k => impl_Step_ranges.j0.eq_2 ..) ?_
    by_cases h : x = true
    · refine Ev.pos h ?_; rw [if_pos (hx.1 h)]; exact Ev.now _
    · rw [if_neg (fun h' => h (hx.2 h'))]
      refine Ev.neg h ?_
      by_cases h2 : L = 116
      · refine Ev.pos h2 ?_; rw [if_pos h2]; exact Ev.now _
      refine Ev.neg h2 ?_; rw [if_neg h2]
      by_cases h3 : s0 = 4
      · refine Ev.pos h3 ?_; rw [if_pos h3]; exact Ev.now _
      refine Ev.neg h3 ?_; rw [if_neg h3]
      by_cases h4 : s0 = 5
      · refine Ev.pos h4 ?_; rw [if_pos h4]; exact Ev.now _
      refine Ev.neg h4 ?_; rw [if_neg h4]; exact Ev.now _
  unfold impl_Step_ranges.f
  by_cases h1 : L = 111
  · unfold rangeP; refine Ev.pos h1 ?_; rw [if_pos h1]; exact Ev.now _
  refine Ev.neg h1 ?_
  by_cases h2 : L = 100
  · exact Ev.pos h2 (j true (by simp [h2]) h1)
  · exact Ev.neg h2 (j (L == 115) (by simp [h2]) h1)

theorem valid_loop (s0 s1 s2 s3 s4 s5 : Int) (b : ByteArray) (hb : b.size ≤ 100) : ∀ (Ls : List Int) (i : Nat) (r1 r2 r3 r4 r5 : Int), b.size = i + Ls.length → (∀ j (h : j < Ls.length), bt b ((i + j : Nat) : Int) = Ls[j]) → Ev (fun k => impl_Step_valid.l0 k s0 s1 s2 s3 s4 s5 b r1 r2 r3 r4 r5 (i : Int)) (vres s0 s1 s2 s3 s4 s5 Ls r1 r2 r3 r4 r5)
  | [], i, r1, r2, r3, r4, r5, h, _ => by
    have h : b.size = i := h
    refine Ev.step (fun k => impl_Step_valid.l0.eq_2 ..) (Ev.neg (by omega) (Ev.bindE (impl_in_eq ..) ?_))
    unfold vres
    by_cases hk : In s0 1 11 = true
    · refine Ev.pos hk ?_; rw [hk]; exact Ev.now _
    · refine Ev.neg hk ?_; rw [Bool.eq_false_iff.mpr hk]; exact Ev.now _
  | L :: Ls, i, r1, r2, r3, r4, r5, h, hL => by
    have h : b.size = i + (Ls.length + 1) := h
    have e : bt b (i : Int) = L := hL 0 (by simp)
    refine Ev.step (fun k => impl_Step_valid.l0.eq_2 ..) (Ev.pos (by omega) (Ev.pos (by omega) ?_))
    rw [e]
    refine Ev.bind (ranges_ev s0 s1 s2 s3 s4 s5 L) (Ev.bindE (impl_in_eq ..) ?_)
    unfold vres
    by_cases hk : In (impl_Step_valid.fld L s1 s2 s3 s4 s5) (rangeP s0 L).1 (rangeP s0 L).2 = true
    · refine Ev.pos hk ?_
      rw [hk, w1 i (by omega), Bool.true_and]
      refine valid_loop s0 s1 s2 s3 s4 s5 b hb Ls (i + 1) _ _ _ _ _ (by omega) (fun j hj => ?_)
      have := hL (j + 1) (by simp; omega)
      rw [show i + 1 + j = i + (j + 1) by omega, this]; rfl
    · refine Ev.neg hk ?_; rw [Bool.eq_false_iff.mpr hk]; exact Ev.now _

def strP (s0 : Int) : ByteArray := if s0 = 1 then ⟨#[111, 100, 115]⟩ else if s0 = 2 then ⟨#[111, 100, 105]⟩ else if s0 = 3 ∨ s0 = 4 ∨ s0 = 6 ∨ s0 = 7 then ⟨#[100, 105]⟩ else if s0 = 5 then ⟨#[100, 115, 105]⟩ else if s0 = 8 then ⟨#[116]⟩ else if s0 = 9 ∨ s0 = 10 then ⟨#[100, 115, 116]⟩ else ⟨#[]⟩
theorem fields_ev (s0 : Int) : Ev (fun k => impl_fields.f k s0) (strP s0) := by
  have j : ∀ x : Bool, (x = true ↔ (s0 = 3 ∨ s0 = 4 ∨ s0 = 6 ∨ s0 = 7)) → s0 ≠ 1 → s0 ≠ 2 → Ev (fun k => impl_fields.j0 k s0 x) (strP s0) := by
    intro x hx h1 h2
    unfold strP
    rw [if_neg h1, if_neg h2]
    refine Ev.step (fun k => impl_fields.j0.eq_2 ..) ?_
    by_cases h : x = true
    · refine Ev.pos h ?_; rw [if_pos (hx.1 h)]; exact Ev.now _
    refine Ev.neg h ?_; rw [if_neg (fun h' => h (hx.2 h'))]
    by_cases h5 : s0 = 5
    · refine Ev.pos h5 ?_; rw [if_pos h5]; exact Ev.now _
    refine Ev.neg h5 ?_; rw [if_neg h5]
    by_cases h8 : s0 = 8
    · refine Ev.pos h8 ?_; rw [if_pos h8]; exact Ev.now _
    refine Ev.neg h8 ?_; rw [if_neg h8]
    by_cases h9 : s0 = 9
    · refine Ev.pos h9 ?_; rw [if_pos (Or.inl h9)]; exact Ev.now _
    refine Ev.neg h9 ?_
    by_cases h10 : s0 = 10
    · refine Ev.pos h10 ?_; rw [if_pos (Or.inr h10)]; exact Ev.now _
    refine Ev.neg h10 ?_; rw [if_neg (by omega)]; exact Ev.now _
  unfold impl_fields.f
  by_cases h1 : s0 = 1
  · unfold strP; refine Ev.pos h1 ?_; rw [if_pos h1]; exact Ev.now _
  refine Ev.neg h1 ?_
  by_cases h2 : s0 = 2
  · unfold strP; refine Ev.pos h2 ?_; rw [if_neg h1, if_pos h2]; exact Ev.now _
  refine Ev.neg h2 ?_
  by_cases h3 : s0 = 3
  · exact Ev.pos h3 (j _ (by simp [h3]) h1 h2)
  refine Ev.neg h3 ?_
  by_cases h4 : s0 = 4
  · exact Ev.pos h4 (j _ (by simp [h4]) h1 h2)
  refine Ev.neg h4 ?_
  by_cases h6 : s0 = 6
  · exact Ev.pos h6 (j _ (by simp [h6]) h1 h2)
  exact Ev.neg h6 (j _ (by simp [h3, h4, h6]) h1 h2)

theorem str_let (s0 : Int) : (strP s0).size = (letP s0).length ∧ (strP s0).size ≤ 100 ∧ ∀ j (h : j < (letP s0).length), bt (strP s0) ((0 + j : Nat) : Int) = (letP s0)[j] := by
  have c : ∀ (b : ByteArray) (l : List Int), b.size = l.length → b.size ≤ 100 → (∀ j (h : j < l.length), bt b ((0 + j : Nat) : Int) = l[j]) → b.size = l.length ∧ b.size ≤ 100 ∧ ∀ j (h : j < l.length), bt b ((0 + j : Nat) : Int) = l[j] := fun _ _ a b c => ⟨a, b, c⟩
  unfold strP letP
  by_cases h1 : s0 = 1
  · simp only [h1, if_true]; exact c _ _ rfl (by decide) (by decide)
  simp only [h1, if_false]
  by_cases h2 : s0 = 2
  · simp only [h2, if_true]; exact c _ _ rfl (by decide) (by decide)
  simp only [h2, if_false]
  by_cases h3 : s0 = 3 ∨ s0 = 4 ∨ s0 = 6 ∨ s0 = 7
  · simp only [h3, if_true]; exact c _ _ rfl (by decide) (by decide)
  simp only [h3, if_false]
  by_cases h5 : s0 = 5
  · simp only [h5, if_true]; exact c _ _ rfl (by decide) (by decide)
  simp only [h5, if_false]
  by_cases h8 : s0 = 8
  · simp only [h8, if_true]; exact c _ _ rfl (by decide) (by decide)
  simp only [h8, if_false]
  by_cases h9 : s0 = 9 ∨ s0 = 10
  · simp only [h9, if_true]; exact c _ _ rfl (by decide) (by decide)
  simp only [h9, if_false]
  exact c _ _ rfl (by decide) (by decide)
theorem valid_ev (s0 s1 s2 s3 s4 s5 : Int) : Ev (fun k => impl_Step_valid.f k s0 s1 s2 s3 s4 s5) (VK s0 s1 s2 s3 s4 s5) := by
  obtain ⟨h1, h2, h3⟩ := str_let s0
  rw [← VS_eq]
  unfold impl_Step_valid.f VS
  exact Ev.bind (fields_ev s0) (valid_loop s0 s1 s2 s3 s4 s5 (strP s0) h2 (letP s0) 0 _ _ _ _ _ (by omega) h3)

theorem spec_l2Reg_eq (a : Int) : spec_l2Reg.f a = some (In a 0 5) := by unfold spec_l2Reg.f; rw [spec_l1In_eq]; rfl

def ZeroB (s1 s2 s3 s4 s5 : Int) (a b c d e : Bool) : Bool := (a || s1 == 0) && (b || s2 == 0) && (c || s3 == 0) && (d || s4 == 0) && (e || s5 == 0)
theorem spec_l2Zero_eq (s0 s1 s2 s3 s4 s5 : Int) (a b c d e : Bool) : spec_l2Zero.f s0 s1 s2 s3 s4 s5 a b c d e = some (ZeroB s1 s2 s3 s4 s5 a b c d e) := by
  unfold spec_l2Zero.f ZeroB
  by_cases h1 : s1 = 0 <;> by_cases h2 : s2 = 0 <;> by_cases h3 : s3 = 0 <;> by_cases h4 : s4 = 0 <;> simp only [h1, h2, h3, h4] <;> cases a <;> cases b <;> cases c <;> cases d <;> cases e <;> simp [*]

theorem l2Step_ev (s0 s1 s2 s3 s4 s5 : Int) : Ev (fun k => spec_l2Step.f k s0 s1 s2 s3 s4 s5) (VK s0 s1 s2 s3 s4 s5) := by
  have z : ∀ a b c d e, ((spec_l2Zero.f s0 s1 s2 s3 s4 s5 a b c d e).bind fun t => some t) = some (ZeroB s1 s2 s3 s4 s5 a b c d e) := fun a b c d e => by rw [spec_l2Zero_eq]; rfl
  have r3 : (s3 == 0) = true → In s3 0 5 = true := fun h => by rw [beq_iff_eq] at h; rw [h]; decide
  have r2 : (s2 == 0) = true → In s2 0 5 = true := fun h => by rw [beq_iff_eq] at h; rw [h]; decide
  have j : ∀ x : Bool, (x = !(In s2 0 5 && In s3 0 5)) → Ev (fun k => spec_l2Step.j0 k (In s1 1 10) (In s5 1 19) x s0 s1 s2 s3 s4 s5) (VK s0 s1 s2 s3 s4 s5) := by
    intro x hx
    refine Ev.step (fun k => spec_l2Step.j0.eq_2 ..) ?_
    by_cases hr : (In s2 0 5 && In s3 0 5) = true
    · refine Ev.neg (by rw [hx, hr]; simp) ?_
      obtain ⟨g2, g3⟩ := (Bool.and_eq_true _ _).mp hr
      unfold VK
      by_cases h1 : s0 = 1
      · refine Ev.pos h1 ?_; rw [if_pos h1]
        by_cases ho : In s1 1 10 = true
        · refine Ev.pos ho (Ev.congr (fun k => z ..) (Ev.at_ (Ev.now _) ?_)); rw [ho, g2, g3]; simp [ZeroB]
        · refine Ev.neg ho (Ev.at_ (Ev.now _) ?_); rw [Bool.eq_false_iff.mpr ho]; rfl
      refine Ev.neg h1 ?_; rw [if_neg h1]
      by_cases h2 : s0 = 2
      · refine Ev.pos h2 ?_; rw [if_pos h2]
        by_cases ho : In s1 1 10 = true
        · refine Ev.pos ho (Ev.bindE (spec_l1In_eq ..) ?_)
          by_cases hi : In s4 0 255 = true
          · refine Ev.pos hi (Ev.congr (fun k => z ..) (Ev.at_ (Ev.now _) ?_)); rw [ho, g2, hi]; simp [ZeroB]
          · refine Ev.neg hi (Ev.at_ (Ev.now _) ?_); rw [Bool.eq_false_iff.mpr hi]; simp
        · refine Ev.neg ho (Ev.at_ (Ev.now _) ?_); rw [Bool.eq_false_iff.mpr ho]; rfl
      refine Ev.neg h2 ?_; rw [if_neg h2]
      by_cases h3 : s0 = 3
      · rw [if_pos (Or.inl h3)]; refine Ev.pos h3 (Ev.bindE (spec_l1In_eq ..) ?_)
        by_cases hi : In s4 0 255 = true
        · refine Ev.pos hi (Ev.congr (fun k => z ..) (Ev.at_ (Ev.now _) ?_)); rw [g2, hi]; simp [ZeroB]
        · refine Ev.neg hi (Ev.at_ (Ev.now _) ?_); rw [Bool.eq_false_iff.mpr hi]; simp
      refine Ev.neg h3 ?_
      by_cases h4 : s0 = 4
      · rw [if_neg (by omega), if_pos h4]; refine Ev.pos h4 (Ev.bindE (spec_l1In_eq ..) ?_)
        by_cases hi : In s4 256 65535 = true
        · refine Ev.pos hi (Ev.congr (fun k => z ..) (Ev.at_ (Ev.now _) ?_)); rw [g2, hi]; simp [ZeroB]
        · refine Ev.neg hi (Ev.at_ (Ev.now _) ?_); rw [Bool.eq_false_iff.mpr hi]; simp
      refine Ev.neg h4 ?_
      by_cases h5 : s0 = 5
      · rw [if_neg (by omega), if_neg h4, if_pos h5]; refine Ev.pos h5 (Ev.bindE (spec_l1In_eq ..) ?_)
        by_cases hi : In s4 0 7 = true
        · refine Ev.pos hi (Ev.congr (fun k => z ..) (Ev.at_ (Ev.now _) ?_)); rw [g2, g3, hi]; simp [ZeroB]
        · refine Ev.neg hi (Ev.at_ (Ev.now _) ?_); rw [Bool.eq_false_iff.mpr hi]; simp
      refine Ev.neg h5 ?_
      have j1 : ∀ x : Bool, (x = true ↔ (s0 = 6 ∨ s0 = 7)) → Ev (fun k => spec_l2Step.j1 k (In s5 1 19) s0 x s0 s1 s2 s3 s4 s5) (if s0 = 3 ∨ s0 = 6 ∨ s0 = 7 then (s1 == 0) && In s2 0 5 && (s3 == 0) && In s4 0 255 && (s5 == 0)
          else if s0 = 4 then (s1 == 0) && In s2 0 5 && (s3 == 0) && In s4 256 65535 && (s5 == 0)
          else if s0 = 5 then (s1 == 0) && In s2 0 5 && In s3 0 5 && In s4 0 7 && (s5 == 0)
          else if s0 = 8 then (s1 == 0) && (s2 == 0) && (s3 == 0) && (s4 == 0) && In s5 1 19
          else if s0 = 9 ∨ s0 = 10 then (s1 == 0) && In s2 0 5 && In s3 0 5 && (s4 == 0) && In s5 1 19
          else if s0 = 11 then (s1 == 0) && (s2 == 0) && (s3 == 0) && (s4 == 0) && (s5 == 0)
          else false) := by
        intro x hx
        refine Ev.step (fun k => spec_l2Step.j1.eq_2 ..) ?_
        by_cases h67 : s0 = 6 ∨ s0 = 7
        · rw [if_pos (Or.inr h67)]; refine Ev.pos (hx.2 h67) (Ev.bindE (spec_l1In_eq ..) ?_)
          by_cases hi : In s4 0 255 = true
          · refine Ev.pos hi (Ev.congr (fun k => z ..) (Ev.at_ (Ev.now _) ?_)); rw [g2, hi]; simp [ZeroB]
          · refine Ev.neg hi (Ev.at_ (Ev.now _) ?_); rw [Bool.eq_false_iff.mpr hi]; simp
        rw [if_neg (show ¬ (s0 = 3 ∨ s0 = 6 ∨ s0 = 7) by omega), if_neg h4, if_neg h5]
        refine Ev.neg (fun h => h67 (hx.1 h)) ?_
        by_cases h8 : s0 = 8
        · refine Ev.pos h8 ?_; rw [if_pos h8]
          by_cases ht : In s5 1 19 = true
          · refine Ev.pos ht (Ev.congr (fun k => z ..) (Ev.at_ (Ev.now _) ?_)); rw [ht]; simp [ZeroB]
          · refine Ev.neg ht (Ev.at_ (Ev.now _) ?_); rw [Bool.eq_false_iff.mpr ht]; simp
        refine Ev.neg h8 ?_; rw [if_neg h8]
        have j2 : ∀ x : Bool, (x = true ↔ (s0 = 9 ∨ s0 = 10)) → Ev (fun k => spec_l2Step.j2 k (In s5 1 19) x s0 s1 s2 s3 s4 s5) (if s0 = 9 ∨ s0 = 10 then (s1 == 0) && In s2 0 5 && In s3 0 5 && (s4 == 0) && In s5 1 19
            else if s0 = 11 then (s1 == 0) && (s2 == 0) && (s3 == 0) && (s4 == 0) && (s5 == 0)
            else false) := by
          intro x hx
          refine Ev.step (fun k => spec_l2Step.j2.eq_2 ..) ?_
          by_cases h9 : s0 = 9 ∨ s0 = 10
          · refine Ev.pos (hx.2 h9) ?_; rw [if_pos h9]
            by_cases ht : In s5 1 19 = true
            · refine Ev.pos ht (Ev.congr (fun k => z ..) (Ev.at_ (Ev.now _) ?_)); rw [ht, g2, g3]; simp [ZeroB]
            · refine Ev.neg ht (Ev.at_ (Ev.now _) ?_); rw [Bool.eq_false_iff.mpr ht]; simp
          refine Ev.neg (fun h => h9 (hx.1 h)) ?_; rw [if_neg h9]
          by_cases h11 : s0 = 11
          · refine Ev.pos h11 ?_; rw [if_pos h11]; refine Ev.congr (fun k => z ..) (Ev.at_ (Ev.now _) ?_); simp [ZeroB]
          · refine Ev.neg h11 ?_; rw [if_neg h11]; exact Ev.now _
        by_cases h9 : s0 = 9
        · exact Ev.pos h9 (j2 _ (by simp [h9]))
        · exact Ev.neg h9 (j2 _ (by simp [h9]))
      by_cases h6 : s0 = 6
      · exact Ev.pos h6 (j1 _ (by simp [h6]))
      · exact Ev.neg h6 (j1 _ (by simp [h6]))
    · refine Ev.pos (by rw [hx, Bool.eq_false_iff.mpr hr]; rfl) (Ev.at_ (Ev.now _) ?_)
      have hr := Bool.eq_false_iff.mpr hr
      have hf : ∀ a b c d e : Bool, (a && (In s2 0 5) && (In s3 0 5) && d && e) = false := fun a b c d e => by rw [Bool.and_assoc a, hr]; simp
      unfold VK
      have q3 : In s3 0 5 = false → (s3 == 0) = false := fun h => by cases h' : (s3 == 0) with | false => rfl | true => rw [r3 h'] at h; cases h
      have q2 : In s2 0 5 = false → (s2 == 0) = false := fun h => by cases h' : (s2 == 0) with | false => rfl | true => rw [r2 h'] at h; cases h
      rcases (Bool.and_eq_false_iff).mp hr with h | h
      · simp [h, q2 h]
      · simp [h, q3 h]
  unfold spec_l2Step.f
  refine Ev.bindE (spec_l1In_eq ..) (Ev.bindE (spec_l1In_eq ..) (Ev.bindE (spec_l2Reg_eq ..) ?_))
  by_cases h2 : In s2 0 5 = true
  · exact Ev.pos h2 (Ev.bindE (spec_l2Reg_eq ..) (j _ (by rw [h2]; rfl)))
  · exact Ev.neg h2 (j _ (by rw [Bool.eq_false_iff.mpr h2]; rfl))

/-- A step is valid and its jump stays inside the program. -/
def stepOk (n : Nat) (i : Nat) (s : S51) : Bool := VK s.f0 s.f1 s.f2 s.f3 s.f4 s.f5 && !(decide (s.f5 > 0) && decide (wrap64 (wrap64 ((i : Int) + s.f5) + 1) ≥ (n : Int)))
def allOk (n : Nat) (l : List S51) : Nat → Nat → Bool
  | 0, _ => true
  | d + 1, i => stepOk n i (l.getD i z51) && allOk n l d (i + 1)
def lastOk (l : List S51) : Bool := In (l.length : Int) 1 20 && ((rd_T51 l ((l.length : Int) - 1)).f0 == 11)
def GoodP (l : List S51) : Bool := allOk l.length l l.length 0 && lastOk l
theorem Stepb_getD (l : List S51) (i : Nat) (h : i < l.length) : l.getD i z51 = l[i] := by simp [List.getD, h]
/-- A valid step bears a jump just where its kind jumps. -/
theorem VK_jump {s0 s1 s2 s3 s4 s5 : Int} (h : VK s0 s1 s2 s3 s4 s5 = true) : ((s0 = 8 ∨ s0 = 9 ∨ s0 = 10) → 1 ≤ s5 ∧ s5 ≤ 19) ∧ (¬ (s0 = 8 ∨ s0 = 9 ∨ s0 = 10) → s5 = 0) := by
  unfold VK at h
  refine ⟨fun hj => ?_, fun hj => ?_⟩
  · rw [if_neg (by omega), if_neg (by omega), if_neg (by omega), if_neg (by omega), if_neg (by omega)] at h
    by_cases h8 : s0 = 8
    · rw [if_pos h8] at h; simp only [Bool.and_eq_true] at h; exact In_true.1 h.2
    · rw [if_neg h8, if_pos (by omega)] at h; simp only [Bool.and_eq_true] at h; exact In_true.1 h.2
  · by_cases h1 : s0 = 1
    · rw [if_pos h1] at h; simp only [Bool.and_eq_true, beq_iff_eq] at h; exact h.2
    rw [if_neg h1] at h
    by_cases h2 : s0 = 2
    · rw [if_pos h2] at h; simp only [Bool.and_eq_true, beq_iff_eq] at h; exact h.2
    rw [if_neg h2] at h
    by_cases h3 : s0 = 3 ∨ s0 = 6 ∨ s0 = 7
    · rw [if_pos h3] at h; simp only [Bool.and_eq_true, beq_iff_eq] at h; exact h.2
    rw [if_neg h3] at h
    by_cases h4 : s0 = 4
    · rw [if_pos h4] at h; simp only [Bool.and_eq_true, beq_iff_eq] at h; exact h.2
    rw [if_neg h4] at h
    by_cases h5 : s0 = 5
    · rw [if_pos h5] at h; simp only [Bool.and_eq_true, beq_iff_eq] at h; exact h.2
    rw [if_neg h5, if_neg (by omega), if_neg (by omega)] at h
    by_cases h11 : s0 = 11
    · rw [if_pos h11] at h; simp only [Bool.and_eq_true, beq_iff_eq] at h; exact h.2
    · rw [if_neg h11] at h; cases h
theorem jumps_ev (s0 s1 s2 s3 s4 s5 : Int) : impl_Step_jumps.f s0 s1 s2 s3 s4 s5 = some (decide (s0 = 8 ∨ s0 = 9 ∨ s0 = 10)) := by
  unfold impl_Step_jumps.f
  by_cases h8 : s0 = 8
  · rw [if_pos h8]; simp [h8]
  rw [if_neg h8]
  by_cases h9 : s0 = 9
  · rw [if_pos h9]; simp [h9]
  rw [if_neg h9]
  by_cases h10 : s0 = 10 <;> simp [h8, h9, h10]

theorem goodP_spec_loop (l : List S51) (hl : l.length ≤ 1099511627776) : ∀ (d i : Nat), i + d = l.length → Ev (fun k => spec_GoodProgram.l0 k l l (l.length : Int) (i : Int)) (allOk l.length l d i && lastOk l)
  | 0, i, h => by
    refine Ev.step (fun k => spec_GoodProgram.l0.eq_2 ..) (Ev.neg (by omega) (Ev.bindE (spec_l1In_eq ..) ?_))
    unfold allOk lastOk
    by_cases hk : In (l.length : Int) 1 20 = true
    · have := In_true.1 hk
      refine Ev.pos hk ?_
      rw [wrap_id _ (by omega) (by omega)]
      refine Ev.pos (by omega) (Ev.pos (by omega) (Ev.at_ (Ev.now _) ?_))
      rw [hk]; simp
    · refine Ev.neg hk (Ev.at_ (Ev.now _) ?_)
      rw [Bool.eq_false_iff.mpr hk]; simp
  | d + 1, i, h => by
    have ih := goodP_spec_loop l hl d (i + 1) (by omega)
    refine Ev.step (fun k => spec_GoodProgram.l0.eq_2 ..) (Ev.pos (by omega) (Ev.pos (by omega) (Ev.pos (by omega) ?_)))
    unfold allOk stepOk
    rw [Stepb_nat l i (by omega), Stepb_getD l i (by omega), w1 i (by omega)]
    refine Ev.bind (l2Step_ev ..) ?_
    by_cases hv : VK l[i].f0 l[i].f1 l[i].f2 l[i].f3 l[i].f4 l[i].f5 = true
    · refine Ev.pos hv ?_
      rw [hv]
      by_cases hp : l[i].f5 > 0
      · refine Ev.pos hp ?_
        by_cases hg : wrap64 (wrap64 ((i : Int) + l[i].f5) + 1) ≥ (l.length : Int)
        · refine Ev.pos hg (Ev.at_ (Ev.now _) ?_)
          rw [decide_eq_true hp, decide_eq_true hg]; simp
        · refine Ev.neg hg (Ev.at_ ih ?_)
          rw [decide_eq_true hp, decide_eq_false hg]; simp
      · refine Ev.neg hp (Ev.at_ ih ?_)
        rw [decide_eq_false hp]; simp
    · refine Ev.neg hv (Ev.at_ (Ev.now _) ?_)
      rw [Bool.eq_false_iff.mpr hv]; simp
theorem goodP_impl_loop (l : List S51) (hl : l.length ≤ 1099511627776) : ∀ (d i : Nat), i + d = l.length → Ev (fun k => impl_GoodProgram.l0 k l l (l.length : Int) (i : Int)) (allOk l.length l d i)
  | 0, i, h => Ev.step (fun k => impl_GoodProgram.l0.eq_2 ..) (Ev.neg (by omega) (Ev.now _))
  | d + 1, i, h => by
    have ih := goodP_impl_loop l hl d (i + 1) (by omega)
    refine Ev.step (fun k => impl_GoodProgram.l0.eq_2 ..) (Ev.pos (by omega) (Ev.pos (by omega) (Ev.pos (by omega) ?_)))
    unfold allOk stepOk
    rw [Stepb_nat l i (by omega), Stepb_getD l i (by omega), w1 i (by omega)]
    refine Ev.bind (valid_ev ..) ?_
    by_cases hv : VK l[i].f0 l[i].f1 l[i].f2 l[i].f3 l[i].f4 l[i].f5 = true
    · obtain ⟨j1, j2⟩ := VK_jump hv
      refine Ev.pos hv (Ev.bindE (jumps_ev ..) ?_)
      rw [hv]
      by_cases hj : l[i].f0 = 8 ∨ l[i].f0 = 9 ∨ l[i].f0 = 10
      · have hp : l[i].f5 > 0 := by have := j1 hj; omega
        refine Ev.pos (decide_eq_true hj) ?_
        by_cases hg : wrap64 (wrap64 ((i : Int) + l[i].f5) + 1) ≥ (l.length : Int)
        · refine Ev.pos hg (Ev.at_ (Ev.now _) ?_)
          rw [decide_eq_true hp, decide_eq_true hg]; simp
        · refine Ev.neg hg (Ev.at_ ih ?_)
          rw [decide_eq_true hp, decide_eq_false hg]; simp
      · have hp : ¬ l[i].f5 > 0 := by have := j2 hj; omega
        refine Ev.neg (by rw [decide_eq_false hj]; simp) (Ev.at_ ih ?_)
        rw [decide_eq_false hp]; simp
    · refine Ev.neg hv (Ev.at_ (Ev.now _) ?_)
      rw [Bool.eq_false_iff.mpr hv]; simp
theorem goodP_spec (l : List S51) (hl : l.length ≤ 1099511627776) : Ev (fun k => spec_GoodProgram.f k l) (GoodP l) := goodP_spec_loop l hl l.length 0 (by omega)
theorem goodP_impl (l : List S51) (hl : l.length ≤ 1099511627776) : Ev (fun k => impl_GoodProgram.f k l) (GoodP l) := by
  unfold impl_GoodProgram.f GoodP
  refine Ev.bindE (impl_in_eq ..) ?_
  by_cases hk : In (l.length : Int) 1 20 = true
  · have hk' := In_true.1 hk
    refine Ev.pos hk ?_
    rw [wrap_id _ (by omega) (by omega)]
    refine Ev.pos (by omega) (Ev.pos (by omega) (Ev.step (fun k => impl_GoodProgram.j0.eq_2 ..) ?_))
    unfold lastOk
    rw [hk]
    by_cases h11 : (rd_T51 l ((l.length : Int) - 1)).f0 = 11
    · refine Ev.neg (by rw [h11]; simp) (Ev.at_ (goodP_impl_loop l hl l.length 0 (by omega)) ?_)
      rw [h11]; simp
    · refine Ev.pos (by simp [h11]) (Ev.at_ (Ev.now _) ?_)
      simp [h11]
  · refine Ev.neg hk (Ev.step (fun k => impl_GoodProgram.j0.eq_2 ..) (Ev.pos rfl (Ev.at_ (Ev.now _) ?_)))
    unfold lastOk
    rw [Bool.eq_false_iff.mpr hk]; simp
/-- What a valid program's steps lead to lies in it. -/
theorem allOk_at {n : Nat} {l : List S51} : ∀ (d i : Nat), allOk n l d i = true → ∀ j, i ≤ j → j < i + d → stepOk n j (l.getD j z51) = true
  | 0, i, _, j, h1, h2 => by omega
  | d + 1, i, h, j, h1, h2 => by
    unfold allOk at h
    rw [Bool.and_eq_true] at h
    by_cases e : i = j
    · subst e; exact h.1
    · exact allOk_at d (i + 1) h.2 j (by omega) (by omega)
theorem GoodP_at {l : List S51} (h : GoodP l = true) : (1 ≤ l.length ∧ l.length ≤ 20) ∧ ∀ i (hi : i < l.length), ((l[i].f0 = 8 ∨ l[i].f0 = 9 ∨ l[i].f0 = 10) → 1 ≤ l[i].f5 ∧ (i : Int) + l[i].f5 + 1 < l.length) ∧ (l[i].f0 ≠ 11 → (i : Int) + 1 < l.length) := by
  unfold GoodP lastOk at h
  simp only [Bool.and_eq_true, beq_iff_eq] at h
  obtain ⟨h1, h2, h3⟩ := h
  have h2 := In_true.1 h2
  refine ⟨by omega, fun i hi => ?_⟩
  have h4 := allOk_at l.length 0 h1 i (by omega) (by omega)
  rw [Stepb_getD l i hi] at h4
  unfold stepOk at h4
  simp only [Bool.and_eq_true, Bool.not_eq_true', Bool.and_eq_false_iff, decide_eq_false_iff_not] at h4
  obtain ⟨v, h5⟩ := h4
  obtain ⟨j1, _⟩ := VK_jump v
  refine ⟨fun hj => ?_, fun hk => ?_⟩
  · have := j1 hj
    refine ⟨by omega, ?_⟩
    rcases h5 with h5 | h5
    · omega
    · rw [wrap_id ((i : Int) + l[i].f5) (by omega) (by omega), wrap_id _ (by omega) (by omega)] at h5; omega
  · have e : (l.length : Int) - 1 = ((l.length - 1 : Nat) : Int) := by omega
    rw [e, Stepb_nat l (l.length - 1) (by omega)] at h3
    by_cases ei : i = l.length - 1
    · subst ei; exact absurd h3 hk
    · omega

theorem nexts_eq (l : List S51) (i : Int) : impl_nexts.f l i = spec_l2Nexts.f l i := rfl
theorem nexts_ev (l : List S51) (h : GoodP l = true) (i : Nat) (hi : i < l.length) : ∃ t, spec_l2Nexts.f l (i : Int) = some t ∧ t.length ≤ 2 ∧ ∀ j (hj : j < t.length), 0 ≤ t[j] ∧ t[j] < (l.length : Int) := by
  obtain ⟨hn, h⟩ := GoodP_at h
  obtain ⟨h1, h2⟩ := h i hi
  unfold spec_l2Nexts.f
  rw [if_pos (by omega), if_pos (by omega), Stepb_nat l i hi]
  by_cases h11 : l[i].f0 = 11
  · rw [if_pos h11]; exact ⟨_, rfl, by simp, fun j hj => by simp at hj⟩
  have h2 := h2 h11
  have e1 : wrap64 ((i : Int) + 1) = (i : Int) + 1 := wrap_id _ (by omega) (by omega)
  rw [if_neg h11, e1]
  have two : ∀ a b : Int, 0 ≤ a → a < l.length → 0 ≤ b → b < l.length → ∃ t, some ([a, b] : List Int) = some t ∧ t.length ≤ 2 ∧ ∀ j (hj : j < t.length), 0 ≤ t[j] ∧ t[j] < (l.length : Int) := by
    intro a b ha ha' hb hb'
    refine ⟨_, rfl, by simp, fun j hj => ?_⟩
    match j, hj with
    | 0, _ => exact ⟨ha, ha'⟩
    | 1, _ => exact ⟨hb, hb'⟩
  have one : ∀ a : Int, 0 ≤ a → a < l.length → ∃ t, some ([a] : List Int) = some t ∧ t.length ≤ 2 ∧ ∀ j (hj : j < t.length), 0 ≤ t[j] ∧ t[j] < (l.length : Int) := by
    intro a ha ha'
    refine ⟨_, rfl, by simp, fun j hj => ?_⟩
    match j, hj with
    | 0, _ => exact ⟨ha, ha'⟩
  by_cases h8 : l[i].f0 = 8
  · have := h1 (Or.inl h8)
    rw [if_pos h8, wrap_id ((i : Int) + l[i].f5) (by omega) (by omega), wrap_id _ (by omega) (by omega)]
    exact one _ (by omega) (by omega)
  rw [if_neg h8]
  by_cases h9 : l[i].f0 = 9
  · have := h1 (Or.inr (Or.inl h9))
    rw [if_pos h9, wrap_id ((i : Int) + l[i].f5) (by omega) (by omega), wrap_id _ (by omega) (by omega)]
    exact two _ _ (by omega) (by omega) (by omega) (by omega)
  rw [if_neg h9]
  by_cases h10 : l[i].f0 = 10
  · have := h1 (Or.inr (Or.inr h10))
    rw [if_pos h10, wrap_id ((i : Int) + l[i].f5) (by omega) (by omega), wrap_id _ (by omega) (by omega)]
    exact two _ _ (by omega) (by omega) (by omega) (by omega)
  rw [if_neg h10]
  exact one _ (by omega) (by omega)

/-- The places of a row that are true, from a number on. -/
def tr : List Bool → Nat → List Int
  | [], _ => []
  | b :: v, s => if b = true then (s : Int) :: tr v (s + 1) else tr v (s + 1)
theorem tr_ge : ∀ (v : List Bool) (s : Nat) (x : Int), x ∈ tr v s → (s : Int) ≤ x
  | [], _, _, h => by simp [tr] at h
  | b :: v, s, x, h => by
    unfold tr at h
    by_cases hb : b = true
    · rw [if_pos hb] at h
      rcases List.mem_cons.1 h with h | h
      · omega
      · have := tr_ge v (s + 1) x h; omega
    · rw [if_neg hb] at h
      have := tr_ge v (s + 1) x h; omega
theorem tr_len : ∀ (v : List Bool) (s : Nat), (tr v s).length ≤ v.length
  | [], _ => by simp [tr]
  | b :: v, s => by
    have := tr_len v (s + 1)
    unfold tr
    by_cases hb : b = true
    · rw [if_pos hb]; simp; omega
    · rw [if_neg hb]; simp; omega
theorem tr_mem : ∀ (v : List Bool) (s j : Nat) (h : j < v.length), decide (((s + j : Nat) : Int) ∈ tr v s) = v[j]
  | [], _, _, h => by simp at h
  | b :: v, s, 0, h => by
    unfold tr
    by_cases hb : b = true
    · rw [if_pos hb]; simp [hb]
    · rw [if_neg hb]
      have : ¬ ((s + 0 : Nat) : Int) ∈ tr v (s + 1) := fun h => by have := tr_ge v (s + 1) _ h; omega
      simp only [decide_eq_false this, List.getElem_cons_zero]
      exact (Bool.eq_false_iff.mpr hb).symm
  | b :: v, s, j + 1, h => by
    have ih := tr_mem v (s + 1) j (by simpa using h)
    rw [show s + 1 + j = s + (j + 1) by omega] at ih
    unfold tr
    rw [List.getElem_cons_succ, ← ih]
    by_cases hb : b = true
    · rw [if_pos hb]
      have : ¬ ((s + (j + 1) : Nat) : Int) = (s : Int) := by omega
      simp only [List.mem_cons, this, false_or]
    · rw [if_neg hb]
def putP : List Int → Int → List Int
  | [], x => [x]
  | a :: l, x => if a < x then a :: putP l x else if a = x then a :: l else x :: a :: l
theorem putP_low (l : List Int) (x : Int) (h : ∀ a, a ∈ l → x < a) : putP l x = x :: l := by
  cases l with
  | nil => rfl
  | cons a l =>
    have := h a (by simp)
    unfold putP
    rw [if_neg (by omega), if_neg (by omega)]
theorem putP_tr : ∀ (v : List Bool) (s j : Nat) (h : j < v.length), putP (tr v s) ((s + j : Nat) : Int) = tr (v.set j true) s
  | [], _, _, h => by simp at h
  | b :: v, s, 0, h => by
    have low : ∀ a, a ∈ tr v (s + 1) → (s : Int) < a := fun a ha => by have := tr_ge v (s + 1) a ha; omega
    rw [List.set_cons_zero]
    unfold tr
    rw [if_pos rfl, Nat.add_zero]
    by_cases hb : b = true
    · rw [if_pos hb]; unfold putP; rw [if_neg (by omega), if_pos (by omega)]
    · rw [if_neg hb]; exact putP_low _ _ low
  | b :: v, s, j + 1, h => by
    have ih := putP_tr v (s + 1) j (by simpa using h)
    rw [show s + 1 + j = s + (j + 1) by omega] at ih
    rw [List.set_cons_succ]
    unfold tr
    by_cases hb : b = true
    · rw [if_pos hb, if_pos hb, ← ih]; conv => lhs; unfold putP
      rw [if_pos (by omega)]
    · rw [if_neg hb, if_neg hb, ih]
theorem tr_falses : ∀ (m s : Nat), tr (List.replicate m false) s = []
  | 0, _ => rfl
  | m + 1, s => by rw [List.replicate_succ]; unfold tr; rw [if_neg (by simp)]; exact tr_falses m (s + 1)
theorem rdOf_bool (l : List Bool) (i : Nat) (h : i < l.length) : rdOf false l (i : Int) = l[i] := by unfold rdOf; simp [List.getD, h]

theorem l1Has_loop (l : List Int) (x : Int) (hl : l.length ≤ 1099511627776) : ∀ (d i : Nat), i + d = l.length → Ev (fun k => spec_l1Has.l0 k x l (l.length : Int) (i : Int)) (decide (x ∈ l.drop i))
  | 0, i, h => by
    rw [List.drop_eq_nil_of_le (by omega)]
    exact Ev.step (fun k => spec_l1Has.l0.eq_2 ..) (Ev.neg (by omega) (Ev.now _))
  | d + 1, i, h => by
    refine Ev.step (fun k => spec_l1Has.l0.eq_2 ..) (Ev.pos (by omega) (Ev.pos (by omega) (Ev.pos (by omega) ?_)))
    rw [rd_nat l i (by omega), w1 i (by omega), List.drop_eq_getElem_cons (show i < l.length by omega)]
    by_cases hx : l[i] = x
    · refine Ev.pos hx (Ev.at_ (Ev.now _) ?_); simp [hx]
    · refine Ev.neg hx (Ev.at_ (l1Has_loop l x hl d (i + 1) (by omega)) ?_)
      have : ¬ x = l[i] := fun h => hx h.symm
      simp only [List.mem_cons, this, false_or]
theorem l1Has_ev (l : List Int) (x : Int) (hl : l.length ≤ 1099511627776) : Ev (fun k => spec_l1Has.f k l x) (decide (x ∈ l)) := by
  have h := l1Has_loop l x hl l.length 0 (by omega)
  rw [List.drop_zero] at h
  exact h

theorem l1Put_loop (l : List Int) (x : Int) (hl : l.length ≤ 1099511627776) : ∀ (d i : Nat), i + d = l.length → Ev (fun k => spec_l1Put.l0 k l x (i : Int)) (l.take i ++ putP (l.drop i) x)
  | 0, i, h => by
    rw [List.drop_eq_nil_of_le (by omega), List.take_of_length_le (by omega)]
    refine Ev.step (fun k => spec_l1Put.l0.eq_2 ..) (Ev.neg (by omega) ?_)
    refine Ev.bindE rfl (Ev.pos (by omega) (Ev.pos (by omega) (Ev.bindE rfl ?_)))
    rw [Int.toNat_natCast, List.take_of_length_le (by omega), List.drop_eq_nil_of_le (by omega)]
    refine Ev.pos (by simp; omega) (Ev.bindE rfl (Ev.pos (by simp; omega) (Ev.bindE rfl (Ev.bindE rfl (Ev.pos (by simp; omega) (Ev.at_ (Ev.now _) ?_))))))
    simp [putP]
  | d + 1, i, h => by
    have hd := List.drop_eq_getElem_cons (show i < l.length by omega)
    have hlt : (l.take i).length = i := by simp; omega
    refine Ev.step (fun k => spec_l1Put.l0.eq_2 ..) (Ev.pos (by omega) (Ev.pos (by omega) ?_))
    rw [rd_nat l i (by omega), w1 i (by omega)]
    by_cases h1 : l[i] < x
    · refine Ev.pos h1 (Ev.at_ (l1Put_loop l x hl d (i + 1) (by omega)) ?_)
      rw [hd]
      conv => rhs; unfold putP
      rw [if_pos h1, List.take_succ_eq_append_getElem (show i < l.length by omega), List.append_assoc]; rfl
    · refine Ev.neg h1 ?_
      by_cases h2 : l[i] = x
      · refine Ev.pos h2 (Ev.at_ (Ev.now _) ?_)
        rw [hd]; unfold putP
        rw [if_neg h1, if_pos h2, ← hd, List.take_append_drop]
      · refine Ev.neg h2 (Ev.bindE rfl (Ev.pos (by omega) (Ev.bindE rfl ?_)))
        rw [Int.toNat_natCast]
        refine Ev.pos (by simp; omega) (Ev.bindE rfl (Ev.pos (by simp; omega) (Ev.bindE rfl (Ev.bindE rfl (Ev.pos (by simp; omega) (Ev.at_ (Ev.now _) ?_))))))
        rw [hd]; unfold putP
        rw [if_neg h1, if_neg h2]; simp
theorem l1Put_ev (l : List Int) (x : Int) (hl : l.length ≤ 1099511627776) : Ev (fun k => spec_l1Put.f k l x) (putP l x) := by
  have h := l1Put_loop l x hl l.length 0 (by omega)
  rw [List.drop_zero, List.take_zero, List.nil_append] at h
  exact h

theorem reach_inner (l : List S51) (hn : l.length ≤ 20) (i : Nat) (t : List Int) (ht2 : t.length ≤ 2) (ht : ∀ j (hj : j < t.length), 0 ≤ t[j] ∧ t[j] < (l.length : Int))
    (cont : ∀ v : List Bool, v.length = l.length → ∃ v', v'.length = l.length ∧ Ev (fun k => impl_reachable.l0 k l v (l.length : Int) (wrap64 ((i : Int) + 1))) v' ∧ Ev (fun k => spec_l11Reached.l0 k l (tr v 0) (wrap64 ((i : Int) + 1))) (tr v' 0)) :
    ∀ (d j : Nat) (v : List Bool), j + d = t.length → v.length = l.length → ∃ v', v'.length = l.length ∧ Ev (fun k => impl_reachable.l1 k l v (l.length : Int) (i : Int) t (t.length : Int) (j : Int)) v' ∧ Ev (fun k => spec_l11Reached.l1 k l (tr v 0) (i : Int) t (t.length : Int) (j : Int)) (tr v' 0)
  | 0, j, v, h, hv => by
    obtain ⟨v', h0, h1, h2⟩ := cont v hv
    exact ⟨v', h0, Ev.step (fun k => impl_reachable.l1.eq_2 ..) (Ev.neg (by omega) h1), Ev.step (fun k => spec_l11Reached.l1.eq_2 ..) (Ev.neg (by omega) h2)⟩
  | d + 1, j, v, h, hv => by
    have hj := ht j (by omega)
    obtain ⟨x, hx⟩ := Int.eq_ofNat_of_zero_le hj.1
    rw [hx] at hj
    obtain ⟨v', h0, h1, h2⟩ := reach_inner l hn i t ht2 ht cont d (j + 1) (v.set x true) (by omega) (by simpa using hv)
    have hp := putP_tr v 0 x (by omega)
    rw [Nat.zero_add] at hp
    have hlen := tr_len v 0
    refine ⟨v', h0, Ev.step (fun k => impl_reachable.l1.eq_2 ..) ?_, Ev.step (fun k => spec_l11Reached.l1.eq_2 ..) ?_⟩
    · rw [rd_nat t j (by omega), w1 j (by omega), hx]
      exact Ev.pos (by omega) (Ev.pos (by omega) (Ev.pos (by omega) (Ev.pos (by omega) (Ev.pos (by omega) h1))))
    · rw [rd_nat t j (by omega), w1 j (by omega), hx]
      refine Ev.pos (by omega) (Ev.pos (by omega) (Ev.pos (by omega) (Ev.bind (l1Put_ev (tr v 0) (x : Int) (by omega)) ?_)))
      rw [hp]; exact h2
theorem reach_outer (l : List S51) (hg : GoodP l = true) : ∀ (d i : Nat) (v : List Bool), i + d = l.length → v.length = l.length → ∃ v', v'.length = l.length ∧ Ev (fun k => impl_reachable.l0 k l v (l.length : Int) (i : Int)) v' ∧ Ev (fun k => spec_l11Reached.l0 k l (tr v 0) (i : Int)) (tr v' 0)
  | 0, i, v, h, hv => ⟨v, hv, Ev.step (fun k => impl_reachable.l0.eq_2 ..) (Ev.neg (by omega) (Ev.now _)), Ev.step (fun k => spec_l11Reached.l0.eq_2 ..) (Ev.neg (by omega) (Ev.now _))⟩
  | d + 1, i, v, h, hv => by
    have hn := (GoodP_at hg).1
    have hlen := tr_len v 0
    have hm := tr_mem v 0 i (by omega)
    rw [Nat.zero_add] at hm
    have hh := l1Has_ev (tr v 0) (i : Int) (by omega)
    rw [hm] at hh
    by_cases hb : v[i]'(by omega) = true
    · obtain ⟨t, e, t2, ht⟩ := nexts_ev l hg i (by omega)
      obtain ⟨v', h0, h1, h2⟩ := reach_inner l hn.2 i t t2 ht (fun w hw => by rw [w1 i (by omega)]; exact reach_outer l hg d (i + 1) w (by omega) hw) t.length 0 v (by omega) hv
      refine ⟨v', h0, Ev.step (fun k => impl_reachable.l0.eq_2 ..) ?_, Ev.step (fun k => spec_l11Reached.l0.eq_2 ..) ?_⟩
      · rw [rdOf_bool v i (by omega)]
        exact Ev.pos (by omega) (Ev.pos (by omega) (Ev.pos (by omega) (Ev.pos hb (Ev.bindE ((nexts_eq l i).trans e) h1))))
      · exact Ev.pos (by omega) (Ev.bind hh (Ev.pos hb (Ev.bindE e h2)))
    · obtain ⟨v', h0, h1, h2⟩ := reach_outer l hg d (i + 1) v (by omega) hv
      refine ⟨v', h0, Ev.step (fun k => impl_reachable.l0.eq_2 ..) ?_, Ev.step (fun k => spec_l11Reached.l0.eq_2 ..) ?_⟩
      · rw [rdOf_bool v i (by omega), w1 i (by omega)]
        exact Ev.pos (by omega) (Ev.pos (by omega) (Ev.pos (by omega) (Ev.neg hb h1)))
      · rw [w1 i (by omega)]
        exact Ev.pos (by omega) (Ev.bind hh (Ev.neg hb h2))
theorem reach_zero (l : List S51) (hg : GoodP l = true) : ∃ v : List Bool, v.length = l.length ∧ Ev (fun k => impl_reachable.f k l 0) v ∧ Ev (fun k => spec_l11Reached.f k l 0) (tr v 0) := by
  have hn := (GoodP_at hg).1
  obtain ⟨v, h0, h1, h2⟩ := reach_outer l hg l.length 0 ((List.replicate ((l.length : Int) : Int).toNat false : List Bool).set (0 : Int).toNat true) (by omega) (by simp)
  refine ⟨v, h0, ?_, ?_⟩
  · unfold impl_reachable.f
    exact Ev.pos (by omega) (Ev.pos (by omega) (Ev.bindE rfl (Ev.pos (by omega) (Ev.pos (by simp; omega) h1))))
  · unfold spec_l11Reached.f
    have e : tr ((List.replicate ((l.length : Int) : Int).toNat false : List Bool).set (0 : Int).toNat true) 0 = [0] := by
      obtain ⟨m, hm⟩ : ∃ m, ((l.length : Int) : Int).toNat = m + 1 := ⟨l.length - 1, by omega⟩
      rw [hm, List.replicate_succ]
      show tr (true :: List.replicate m false) 0 = [0]
      unfold tr
      rw [if_pos rfl, tr_falses]; rfl
    rw [e] at h2
    exact h2

/-- What a step may lead to. -/
def nx (l : List S51) (i : Int) : List Int := (spec_l2Nexts.f l i).getD []
theorem nx_ev (l : List S51) (h : GoodP l = true) (i : Nat) (hi : i < l.length) : spec_l2Nexts.f l (i : Int) = some (nx l (i : Int)) ∧ impl_nexts.f l (i : Int) = some (nx l (i : Int)) ∧ (nx l (i : Int)).length ≤ 2 ∧ ∀ j (hj : j < (nx l (i : Int)).length), 0 ≤ (nx l (i : Int))[j] ∧ (nx l (i : Int))[j] < (l.length : Int) := by
  obtain ⟨t, e, h2, h3⟩ := nexts_ev l h i hi
  have en : nx l (i : Int) = t := by unfold nx; rw [e]; rfl
  rw [en]
  exact ⟨e, (nexts_eq l i).trans e, h2, h3⟩

theorem evAll {α : Type} {P : Nat → Nat → Option α} {β : Nat → α} : ∀ N : Nat, (∀ i, i < N → Ev (fun k => P k i) (β i)) → ∃ K, ∀ k, K ≤ k → ∀ i, i < N → P k i = some (β i)
  | 0, _ => ⟨0, fun _ _ i hi => absurd hi (Nat.not_lt_zero i)⟩
  | N + 1, h => by
    obtain ⟨K, hK⟩ := evAll N (fun i hi => h i (by omega))
    obtain ⟨K2, hK2⟩ := h N (by omega)
    refine ⟨max K K2, fun k hk i hi => ?_⟩
    by_cases e : i = N
    · rw [e]; exact hK2 k (by omega)
    · exact hK k (by omega) i (by omega)
/-- The numbers from one on for which a test holds. -/
def flt (β : Nat → Bool) : Nat → Nat → List Int
  | 0, _ => []
  | d + 1, i => if β i = true then (i : Int) :: flt β d (i + 1) else flt β d (i + 1)
theorem flt_len (β : Nat → Bool) : ∀ d i, (flt β d i).length ≤ d
  | 0, _ => by simp [flt]
  | d + 1, i => by have := flt_len β d (i + 1); unfold flt; split <;> simp <;> omega
theorem impl_LeadersOf_lstP (p : Int → Option Bool) (n : Nat) (hn : n ≤ 1048576) (β : Nat → Bool) (hp : ∀ i : Nat, i < n → p (i : Int) = some (β i)) : ∀ (d i : Nat) (o : List Int) (k : Nat), i + d = n → d < k → o.length ≤ i → impl_LeadersOf.lst k p (n : Int) o (i : Int) = some (o ++ flt β d i)
  | 0, i, o, k, h, hk, ho => by
    obtain ⟨k, rfl⟩ : ∃ m, k = m + 1 := ⟨k - 1, by omega⟩
    unfold impl_LeadersOf.lst; rw [if_neg (by omega)]; simp [flt]
  | d + 1, i, o, k, h, hk, ho => by
    obtain ⟨k, rfl⟩ : ∃ m, k = m + 1 := ⟨k - 1, by omega⟩
    unfold impl_LeadersOf.lst
    rw [if_pos (by omega), hp i (by omega), Option.bind_some, w1 i (by omega)]
    unfold flt
    by_cases hb : β i = true
    · rw [if_pos hb, if_pos (by omega), if_pos hb, impl_LeadersOf_lstP p n hn β hp d (i + 1) (o ++ [(i : Int)]) k (by omega) (by omega) (by simp; omega)]; simp
    · rw [if_neg hb, if_neg hb]; exact impl_LeadersOf_lstP p n hn β hp d (i + 1) o k (by omega) (by omega) (by omega)
theorem impl_LeadersOf_lst (P : Nat → Int → Option Bool) (n : Nat) (hn : n ≤ 1048576) (β : Nat → Bool) (hP : ∀ i : Nat, i < n → Ev (fun k => P k (i : Int)) (β i)) : Ev (fun k => impl_LeadersOf.lst k (P k) (n : Int) [] 0) (flt β n 0) := by
  obtain ⟨K, hK⟩ := evAll n hP
  exact ⟨max K (n + 1), fun k hk => by
    have h := impl_LeadersOf_lstP (P k) n hn β (hK k (by omega)) n 0 [] k (by omega) (by omega) (by simp)
    rw [List.nil_append] at h
    exact h⟩

/-- A step that does not jump bears no jump; one that jumps leads on to its goal; all it leads to lies ahead. -/
theorem GoodP_to {l : List S51} (h : GoodP l = true) (i : Nat) (hi : i < l.length) : ¬ (l[i].f0 = 8 ∨ l[i].f0 = 9 ∨ l[i].f0 = 10) → l[i].f5 = 0 := by
  unfold GoodP at h
  rw [Bool.and_eq_true] at h
  have h4 := allOk_at l.length 0 h.1 i (by omega) (by omega)
  rw [Stepb_getD l i hi] at h4
  unfold stepOk at h4
  rw [Bool.and_eq_true] at h4
  exact (VK_jump h4.1).2
theorem nx_all (l : List S51) (h : GoodP l = true) (i : Nat) (hi : i < l.length) : (∀ x, x ∈ nx l (i : Int) → (i : Int) < x ∧ x < (l.length : Int)) ∧ ((l[i].f0 = 8 ∨ l[i].f0 = 9 ∨ l[i].f0 = 10) → (i : Int) + l[i].f5 + 1 ∈ nx l (i : Int)) := by
  obtain ⟨hn, h⟩ := GoodP_at h
  obtain ⟨h1, h2⟩ := h i hi
  unfold nx spec_l2Nexts.f
  rw [if_pos (by omega), if_pos (by omega), Stepb_nat l i hi]
  by_cases h11 : l[i].f0 = 11
  · rw [if_pos h11]; exact ⟨fun x hx => by simp at hx, fun hj => by omega⟩
  have h2 := h2 h11
  have e1 : wrap64 ((i : Int) + 1) = (i : Int) + 1 := wrap_id _ (by omega) (by omega)
  rw [if_neg h11, e1]
  by_cases h8 : l[i].f0 = 8
  · have := h1 (Or.inl h8)
    rw [if_pos h8, wrap_id ((i : Int) + l[i].f5) (by omega) (by omega), wrap_id _ (by omega) (by omega)]
    exact ⟨fun x hx => by simp at hx; omega, fun _ => by simp⟩
  rw [if_neg h8]
  by_cases h9 : l[i].f0 = 9
  · have := h1 (Or.inr (Or.inl h9))
    rw [if_pos h9, wrap_id ((i : Int) + l[i].f5) (by omega) (by omega), wrap_id _ (by omega) (by omega)]
    exact ⟨fun x hx => by simp at hx; omega, fun _ => by simp⟩
  rw [if_neg h9]
  by_cases h10 : l[i].f0 = 10
  · have := h1 (Or.inr (Or.inr h10))
    rw [if_pos h10, wrap_id ((i : Int) + l[i].f5) (by omega) (by omega), wrap_id _ (by omega) (by omega)]
    exact ⟨fun x hx => by simp at hx; omega, fun _ => by simp⟩
  rw [if_neg h10]
  exact ⟨fun x hx => by simp at hx; omega, fun hj => by omega⟩
theorem getD_setb (v : List Bool) (x j : Nat) (b : Bool) : (v.set x b).getD j false = if x = j ∧ x < v.length then b else v.getD j false := by
  simp only [List.getD, List.getElem?_set]
  by_cases h : x = j
  · subst h
    by_cases hx : x < v.length <;> simp [hx]
  · simp [h]
theorem getD_get (v : List Bool) (j : Nat) (h : j < v.length) : v.getD j false = v[j] := by simp [List.getD, h]
theorem reach2_inner (l : List S51) (hn : l.length ≤ 20) (i : Nat) (t : List Int) (ht2 : t.length ≤ 2) (ht : ∀ x, x ∈ t → (i : Int) < x ∧ x < (l.length : Int)) (P : List Bool → Prop)
    (cont : ∀ v : List Bool, v.length = l.length → ∃ v', v'.length = l.length ∧ Ev (fun k => impl_reachable.l0 k l v (l.length : Int) (wrap64 ((i : Int) + 1))) v' ∧ (∀ j, v.getD j false = true → v'.getD j false = true) ∧ (∀ a, a ≤ i → v'.getD a false = v.getD a false) ∧ P v') :
    ∀ (d j : Nat) (v : List Bool), j + d = t.length → v.length = l.length → ∃ v', v'.length = l.length ∧ Ev (fun k => impl_reachable.l1 k l v (l.length : Int) (i : Int) t (t.length : Int) (j : Int)) v' ∧ (∀ j, v.getD j false = true → v'.getD j false = true) ∧ (∀ a, a ≤ i → v'.getD a false = v.getD a false) ∧ (∀ x, x ∈ t.drop j → v'.getD x.toNat false = true) ∧ P v'
  | 0, j, v, h, hv => by
    obtain ⟨v', h0, h1, h2, h3, h4⟩ := cont v hv
    exact ⟨v', h0, Ev.step (fun k => impl_reachable.l1.eq_2 ..) (Ev.neg (by omega) h1), h2, h3, fun x hx => by rw [List.drop_eq_nil_of_le (by omega)] at hx; simp at hx, h4⟩
  | d + 1, j, v, h, hv => by
    have hj := ht (t[j]'(by omega)) (List.getElem_mem ..)
    obtain ⟨x, hx⟩ := Int.eq_ofNat_of_zero_le (show 0 ≤ t[j]'(by omega) by omega)
    rw [hx] at hj
    obtain ⟨v', h0, h1, h2, h3, h4, h5⟩ := reach2_inner l hn i t ht2 ht P cont d (j + 1) (v.set x true) (by omega) (by simpa using hv)
    refine ⟨v', h0, Ev.step (fun k => impl_reachable.l1.eq_2 ..) ?_, fun a ha => h2 a ?_, fun a ha => (h3 a ha).trans ?_, fun z hz => ?_, h5⟩
    · rw [rd_nat t j (by omega), w1 j (by omega), hx]
      exact Ev.pos (by omega) (Ev.pos (by omega) (Ev.pos (by omega) (Ev.pos (by omega) (Ev.pos (by omega) h1))))
    · rw [getD_setb]; split
      · rfl
      · exact ha
    · rw [getD_setb, if_neg (by omega)]
    · rw [List.drop_eq_getElem_cons (show j < t.length by omega)] at hz
      rcases List.mem_cons.1 hz with hz | hz
      · rw [hz, hx]; exact h2 _ (by rw [getD_setb, if_pos ⟨by simp, by omega⟩])
      · exact h4 z hz
theorem reach2_outer (l : List S51) (hg : GoodP l = true) : ∀ (d i : Nat) (v : List Bool), i + d = l.length → v.length = l.length → ∃ v', v'.length = l.length ∧ Ev (fun k => impl_reachable.l0 k l v (l.length : Int) (i : Int)) v' ∧ (∀ j, v.getD j false = true → v'.getD j false = true) ∧ (∀ a, a ≤ i → v'.getD a false = v.getD a false) ∧ (∀ a, i ≤ a → a < l.length → v'.getD a false = true → ∀ x, x ∈ nx l (a : Int) → v'.getD x.toNat false = true)
  | 0, i, v, h, hv => ⟨v, hv, Ev.step (fun k => impl_reachable.l0.eq_2 ..) (Ev.neg (by omega) (Ev.now _)), fun _ h => h, fun _ _ => rfl, fun a h1 h2 => by omega⟩
  | d + 1, i, v, h, hv => by
    have hn := (GoodP_at hg).1
    by_cases hb : v[i]'(by omega) = true
    · obtain ⟨e, e2, t2, _⟩ := nx_ev l hg i (by omega)
      obtain ⟨v', h0, h1, h2, h3, h4, h5⟩ := reach2_inner l hn.2 i (nx l (i : Int)) t2 (nx_all l hg i (by omega)).1 (fun v' => ∀ a, i + 1 ≤ a → a < l.length → v'.getD a false = true → ∀ x, x ∈ nx l (a : Int) → v'.getD x.toNat false = true) (fun w hw => by
        rw [w1 i (by omega)]
        obtain ⟨v', q0, q1, q2, q3, q4⟩ := reach2_outer l hg d (i + 1) w (by omega) hw
        exact ⟨v', q0, q1, q2, fun a ha => q3 a (by omega), q4⟩) (nx l (i : Int)).length 0 v (by omega) hv
      refine ⟨v', h0, Ev.step (fun k => impl_reachable.l0.eq_2 ..) ?_, h2, h3, fun a g1 g2 g3 x hx => ?_⟩
      · rw [rdOf_bool v i (by omega)]
        exact Ev.pos (by omega) (Ev.pos (by omega) (Ev.pos (by omega) (Ev.pos hb (Ev.bindE e2 h1))))
      · by_cases ea : a = i
        · subst ea; exact h4 x (by rw [List.drop_zero]; exact hx)
        · exact h5 a (by omega) g2 g3 x hx
    · obtain ⟨v', h0, h1, h2, h3, h4⟩ := reach2_outer l hg d (i + 1) v (by omega) hv
      refine ⟨v', h0, Ev.step (fun k => impl_reachable.l0.eq_2 ..) ?_, h2, fun a ha => h3 a (by omega), fun a g1 g2 g3 x hx => ?_⟩
      · rw [rdOf_bool v i (by omega), w1 i (by omega)]
        exact Ev.pos (by omega) (Ev.pos (by omega) (Ev.pos (by omega) (Ev.neg hb h1)))
      · by_cases ea : a = i
        · subst ea; rw [h3 a (by omega), getD_get v a (by omega)] at g3; exact absurd g3 hb
        · exact h4 a (by omega) g2 g3 x hx
/-- What is reached from the first step: it, and whatever a reached step leads to. -/
theorem reach2_zero (l : List S51) (hg : GoodP l = true) : ∃ v : List Bool, v.length = l.length ∧ Ev (fun k => impl_reachable.f k l 0) v ∧ Ev (fun k => spec_l11Reached.f k l 0) (tr v 0) ∧ v.getD 0 false = true ∧ ∀ a, a < l.length → v.getD a false = true → ∀ x, x ∈ nx l (a : Int) → v.getD x.toNat false = true := by
  have hn := (GoodP_at hg).1
  obtain ⟨v, h0, h1, h2⟩ := reach_zero l hg
  obtain ⟨v', g0, g1, g2, g3, g4⟩ := reach2_outer l hg l.length 0 ((List.replicate ((l.length : Int) : Int).toNat false : List Bool).set (0 : Int).toNat true) (by omega) (by simp)
  have e : v = v' := Ev.one h1 (by
    unfold impl_reachable.f
    exact Ev.pos (by omega) (Ev.pos (by omega) (Ev.bindE rfl (Ev.pos (by omega) (Ev.pos (by simp; omega) g1)))))
  subst e
  exact ⟨v, h0, h1, h2, g2 0 (by rw [getD_setb, if_pos ⟨rfl, by simp; omega⟩]), fun a ha => g4 a (by omega) ha⟩
theorem tr_flt (v : List Bool) : ∀ (d i : Nat), i + d = v.length → tr (v.drop i) i = flt (fun j => v.getD j false) d i
  | 0, i, h => by rw [List.drop_eq_nil_of_le (by omega)]; rfl
  | d + 1, i, h => by
    have hi : i < v.length := by omega
    rw [List.drop_eq_getElem_cons hi]
    unfold tr flt
    simp only [getD_get v i hi, tr_flt v d (i + 1) (by omega)]
theorem tr_cons (b : Bool) (v : List Bool) (s : Nat) : tr (b :: v) s = if b = true then (s : Int) :: tr v (s + 1) else tr v (s + 1) := rfl
theorem w2 (i f : Nat) (h : i + f < 4611686018427387904) : wrap64 (wrap64 ((i : Int) + (f : Int)) + 1) = ((i + f + 1 : Nat) : Int) := by rw [wrap_id ((i : Int) + (f : Int)) (by omega) (by omega), wrap_id _ (by omega) (by omega)]; omega
theorem tr_mem0 (v : List Bool) (j : Nat) (h : j < v.length) : decide ((j : Int) ∈ tr v 0) = v.getD j false := by
  have q := tr_mem v 0 j h
  rw [Nat.zero_add] at q
  rw [q, getD_get v j h]
theorem putP_tr0 (v : List Bool) (j : Nat) (h : j < v.length) : putP (tr v 0) (j : Int) = tr (v.set j true) 0 := by
  have q := putP_tr v 0 j h
  rw [Nat.zero_add] at q
  exact q
def andL (v b : List Bool) : List Bool := List.zipWith (fun x y => x && y) v b
theorem andL_len (v b : List Bool) (h : b.length = v.length) : (andL v b).length = v.length := by simp [andL, h]
theorem andL_getD (v b : List Bool) (h : b.length = v.length) (j : Nat) : (andL v b).getD j false = (v.getD j false && b.getD j false) := by
  by_cases hj : j < v.length
  · rw [getD_get _ _ (by rw [andL_len v b h]; exact hj), getD_get _ _ hj, getD_get _ _ (by omega)]; simp [andL]
  · simp only [List.getD, List.getElem?_eq_none (show v.length ≤ j by omega), List.getElem?_eq_none (show b.length ≤ j by omega), List.getElem?_eq_none (show (andL v b).length ≤ j by rw [andL_len v b h]; omega)]; rfl
theorem getD_ext (a b : List Bool) (h : a.length = b.length) (hj : ∀ j, a.getD j false = b.getD j false) : a = b := by
  refine List.ext_getElem h (fun j h1 h2 => ?_)
  have := hj j
  rwa [getD_get a j h1, getD_get b j h2] at this
theorem andL_set (v b : List Bool) (h : b.length = v.length) (j : Nat) (hj : j < v.length) : andL v (b.set j true) = if v.getD j false = true then (andL v b).set j true else andL v b := by
  refine getD_ext _ _ ?_ (fun a => ?_)
  · rw [andL_len _ _ (by simpa using h)]; split
    · rw [List.length_set, andL_len _ _ h]
    · rw [andL_len _ _ h]
  · rw [andL_getD _ _ (by simpa using h), getD_setb]
    by_cases ha : j = a
    · subst ha
      rw [if_pos ⟨rfl, by omega⟩, Bool.and_true]
      by_cases hv : v.getD j false = true
      · rw [if_pos hv, getD_setb, if_pos ⟨rfl, by rw [andL_len _ _ h]; exact hj⟩, hv]
      · rw [if_neg hv, andL_getD _ _ h, Bool.eq_false_iff.mpr hv]; rfl
    · rw [if_neg (fun q => ha q.1)]
      split
      · rw [getD_setb, if_neg (fun q => ha q.1), andL_getD _ _ h]
      · rw [andL_getD _ _ h]

theorem lead_loop (l : List S51) (hg : GoodP l = true) (v : List Bool) (hv : v.length = l.length) (hcl : ∀ a, a < l.length → v.getD a false = true → ∀ x, x ∈ nx l (a : Int) → v.getD x.toNat false = true) :
    ∀ (d i m : Nat) (b : List Bool), i + d = l.length → (tr v 0).drop m = tr (v.drop i) i → m ≤ (tr v 0).length → b.length = l.length → ∃ b', b'.length = l.length ∧ Ev (fun k => impl_LeadersOf.l0 k l v b (i : Int)) b' ∧ Ev (fun k => spec_LeadersOf.l0 k l (tr (andL v b) 0) (tr v 0) (tr v 0) ((tr v 0).length : Int) (m : Int)) (tr (andL v b') 0, true)
  | 0, i, m, b, h, ht, hm, hb => by
    rw [List.drop_eq_nil_of_le (show v.length ≤ i by omega)] at ht
    have hl := congrArg List.length ht
    rw [List.length_drop] at hl
    simp only [tr, List.length_nil] at hl
    exact ⟨b, hb, Ev.step (fun k => impl_LeadersOf.l0.eq_2 ..) (Ev.neg (by omega) (Ev.now _)), Ev.step (fun k => spec_LeadersOf.l0.eq_2 ..) (Ev.neg (by omega) (Ev.now _))⟩
  | d + 1, i, m, b, h, ht, hm, hb => by
    have hn := (GoodP_at hg).1
    have hi : i < v.length := by omega
    have hlen := tr_len v 0
    rw [List.drop_eq_getElem_cons hi, tr_cons] at ht
    have hlenA := tr_len (andL v b) 0
    rw [andL_len v b (by omega)] at hlenA
    by_cases hb1 : v[i] = true
    · rw [if_pos hb1] at ht
      have hml : m < (tr v 0).length := by
        have hl := congrArg List.length ht
        rw [List.length_drop, List.length_cons] at hl; omega
      rw [List.drop_eq_getElem_cons hml] at ht
      obtain ⟨hx, ht⟩ := List.cons.inj ht
      by_cases hj : l[i].f0 = 8 ∨ l[i].f0 = 9 ∨ l[i].f0 = 10
      · obtain ⟨j1, j2⟩ := ((GoodP_at hg).2 i (by omega)).1 hj
        obtain ⟨f, hf⟩ := Int.eq_ofNat_of_zero_le (show 0 ≤ l[i].f5 by omega)
        have hq := hcl i (by omega) (by rw [getD_get v i hi]; exact hb1) _ ((nx_all l hg i (by omega)).2 hj)
        rw [hf] at j1 j2 hq
        have eq1 : (i : Int) + (f : Int) + 1 = ((i + f + 1 : Nat) : Int) := by omega
        rw [eq1, Int.toNat_natCast] at hq
        have hm1 := tr_mem0 v (i + 1) (by omega)
        have hh := l1Has_ev (tr v 0) ((i + 1 : Nat) : Int) (by omega)
        rw [hm1] at hh
        have hp1 := putP_tr0 (andL v b) (i + f + 1) (by rw [andL_len v b (by omega)]; omega)
        have hp2 := putP_tr0 ((andL v b).set (i + f + 1) true) (i + 1) (by rw [List.length_set, andL_len v b (by omega)]; omega)
        have hlenB := tr_len ((andL v b).set (i + f + 1) true) 0
        rw [List.length_set, andL_len v b (by omega)] at hlenB
        have eand : andL v ((b.set (i + 1) true).set (i + f + 1) true) = if v.getD (i + 1) false = true then ((andL v b).set (i + f + 1) true).set (i + 1) true else (andL v b).set (i + f + 1) true := by
          rw [andL_set v _ (by simpa using (by omega : b.length = v.length)) _ (by omega), if_pos hq, andL_set v b (by omega) _ (by omega)]
          split
          · rw [List.set_comm _ _ (by omega)]
          · rfl
        obtain ⟨b', h0, h1, h2⟩ := lead_loop l hg v hv hcl d (i + 1) (m + 1) ((b.set (i + 1) true).set (i + f + 1) true) (by omega) ht (by omega) (by simpa using hb)
        rw [eand] at h2
        refine ⟨b', h0, Ev.step (fun k => impl_LeadersOf.l0.eq_2 ..) ?_, Ev.step (fun k => spec_LeadersOf.l0.eq_2 ..) ?_⟩
        · rw [rdOf_bool v i hi, w1 i (by omega), Stepb_nat l i (by omega), hf, w2 i f (by omega)]
          refine Ev.pos (by omega) (Ev.pos (by omega) (Ev.pos (by omega) (Ev.pos hb1 (Ev.bindE (jumps_ev ..) (Ev.pos (decide_eq_true hj) ?_)))))
          rw [Int.toNat_natCast, Int.toNat_natCast]
          exact Ev.pos (by omega) (Ev.pos (by omega) (Ev.pos (by omega) (Ev.pos (by omega) h1)))
        · rw [rd_nat (tr v 0) m hml, w1 m (by omega), hx, Stepb_nat l i (by omega), hf, w2 i f (by omega), w1 i (by omega)]
          refine Ev.pos (by omega) (Ev.pos (by omega) (Ev.pos (by omega) (Ev.pos (by omega) (Ev.pos (by omega) (Ev.neg (by omega) (Ev.bind (l1Put_ev _ _ (by omega)) (Ev.bind hh ?_)))))))
          rw [hp1]
          by_cases hs : v.getD (i + 1) false = true
          · rw [if_pos hs] at h2
            refine Ev.pos hs (Ev.bind (l1Put_ev _ _ (by omega)) ?_)
            rw [hp2]; exact h2
          · rw [if_neg hs] at h2
            exact Ev.neg hs h2
      · have hf := GoodP_to hg i (by omega) hj
        obtain ⟨b', h0, h1, h2⟩ := lead_loop l hg v hv hcl d (i + 1) (m + 1) b (by omega) ht (by omega) hb
        refine ⟨b', h0, Ev.step (fun k => impl_LeadersOf.l0.eq_2 ..) ?_, Ev.step (fun k => spec_LeadersOf.l0.eq_2 ..) ?_⟩
        · rw [rdOf_bool v i hi, w1 i (by omega), Stepb_nat l i (by omega)]
          exact Ev.pos (by omega) (Ev.pos (by omega) (Ev.pos (by omega) (Ev.pos hb1 (Ev.bindE (jumps_ev ..) (Ev.neg (by rw [decide_eq_false hj]; simp) h1)))))
        · rw [rd_nat (tr v 0) m hml, w1 m (by omega), hx, Stepb_nat l i (by omega)]
          exact Ev.pos (by omega) (Ev.pos (by omega) (Ev.pos (by omega) (Ev.pos (by omega) (Ev.pos (by omega) (Ev.pos hf h2)))))
    · rw [if_neg hb1] at ht
      obtain ⟨b', h0, h1, h2⟩ := lead_loop l hg v hv hcl d (i + 1) m b (by omega) ht hm hb
      refine ⟨b', h0, Ev.step (fun k => impl_LeadersOf.l0.eq_2 ..) ?_, h2⟩
      rw [rdOf_bool v i hi, w1 i (by omega)]
      exact Ev.pos (by omega) (Ev.pos (by omega) (Ev.pos (by omega) (Ev.neg hb1 h1)))
theorem leadersOf_both (l : List S51) (hl : l.length ≤ 1048576) : Both (fun r => r.1.length ≤ 1048576) (fun k => spec_LeadersOf.f k l) (fun k => impl_LeadersOf.f k l) := by
  unfold spec_LeadersOf.f impl_LeadersOf.f
  refine Both.bindL (goodP_spec l (by omega)) (Both.bindR (goodP_impl l (by omega)) (Both.ite (fun h => ?_) (fun _ => Both.now _ (by simp))))
  have hn := (GoodP_at h).1
  obtain ⟨v, hv, h1, h2, hv0, hcl⟩ := reach2_zero l h
  obtain ⟨b', hb', g1, g2⟩ := lead_loop l h v hv hcl l.length 0 0 ((List.replicate l.length false).set 0 true) (by omega) (by rw [List.drop_zero, List.drop_zero]) (by omega) (by simp)
  have e : tr (andL v ((List.replicate l.length false).set 0 true)) 0 = [0] := by
    rw [andL_set v _ (by simp [hv]) 0 (by omega), if_pos hv0]
    have hz : andL v (List.replicate l.length false) = List.replicate l.length false := getD_ext _ _ (by rw [andL_len _ _ (by simp [hv])]; simp [hv]) (fun j => by
      have hr : (List.replicate l.length false).getD j false = false := by simp only [List.getD, List.getElem?_replicate]; split <;> rfl
      rw [andL_getD _ _ (by simp [hv]), hr, Bool.and_false])
    have hp := putP_tr0 (List.replicate l.length false) 0 (by simp; omega)
    rw [hz, ← hp, tr_falses]; rfl
  rw [e] at g2
  have h3 := impl_LeadersOf_lst (fun _ => impl_LeadersOf.pr v b') l.length hl (fun j => v.getD j false && b'.getD j false) (fun i hi => by
    unfold impl_LeadersOf.pr
    refine Ev.pos (by omega) (Ev.pos (by omega) ?_)
    rw [rdOf_bool v i (by omega)]
    simp only [getD_get v i (by omega), getD_get b' i (by omega)]
    by_cases hb : v[i]'(by omega) = true
    · refine Ev.pos hb (Ev.pos (by omega) (Ev.at_ (Ev.now _) ?_)); rw [rdOf_bool b' i (by omega), hb]; rfl
    · refine Ev.neg hb (Ev.at_ (Ev.now _) ?_); rw [Bool.eq_false_iff.mpr hb]; rfl)
  have hle := flt_len (fun j => v.getD j false && b'.getD j false) l.length 0
  have hfin : tr (andL v b') 0 = flt (fun j => v.getD j false && b'.getD j false) l.length 0 := by
    have := tr_flt (andL v b') l.length 0 (by rw [andL_len v b' (by omega)]; omega)
    rw [List.drop_zero] at this
    rw [this, show (fun j => (andL v b').getD j false) = fun j => v.getD j false && b'.getD j false from funext (fun j => andL_getD v b' (by omega) j)]
  rw [hfin] at g2
  refine Both.bindL h2 (Both.bindR h1 ?_)
  refine ⟨_, g2, ?_, by simp only; omega⟩
  exact Ev.pos ⟨by omega, by omega⟩ (Ev.bind g1 (Ev.bind h3 (Ev.now _)))

theorem FnExactLeadersOf : laws_FnExactLeadersOf.Pure := by
  intro l hl
  refine Ev.rounds ?_
  unfold laws_FnExactLeadersOf.f
  by_cases hb : l.length ≤ 1048576
  · have hb' : (l.map cvStep).length ≤ 1048576 := by simpa using hb
    obtain ⟨⟨v, ok⟩, h1, h2, hv⟩ := leadersOf_both (l.map cvStep) hb'
    simp only at hv
    have ht := toStepS_ev l hb
    have hg := eqStepS_self (l.map cvStep) (by omega)
    have hm1 := markStepS_ev (l.map cvStep) 1 (by omega) (by omega)
    have hm2 := markIntS_ev v 1 (by omega) (by omega)
    have hh := heldIntS_ev v.length 1 (by omega) (by omega)
    have he := eqIntS_self v (by omega)
    refine Ev.bindE (szStepS_ok l _ (by omega) (by omega)) <| Ev.neg (by omega) <| Ev.bind ht <| Ev.bind h1 <| Ev.bind ht <| Ev.bind h2 <| Ev.bind he <| Ev.pos rfl ?_
    refine Ev.step (fun k => laws_FnExactLeadersOf.j0.eq_2 ..) (Ev.neg (by simp) <| Ev.bind ht <| Ev.bind hg <| Ev.pos rfl <| Ev.bind hm1 <| Ev.neg (by simp only; omega) <| Ev.bind he <| Ev.pos rfl ?_)
    refine Ev.step (fun k => laws_FnExactLeadersOf.j1.eq_2 ..) (Ev.neg (by simp) <| Ev.bind hm2 <| Ev.bind hh <| Ev.neg (by omega) <| Ev.pos rfl <| Ev.bind ht <| Ev.bind h2 <| Ev.bind he <| Ev.pos rfl ?_)
    exact Ev.step (fun k => laws_FnExactLeadersOf.j2.eq_2 ..) (Ev.neg (by simp) <| Ev.bind hh <| Ev.neg (by omega) <| Ev.pos rfl (Ev.now _))
  · exact Ev.bindE (szStepS_big l _ (by omega) (by omega) (by omega) hl.1) (Ev.pos (by omega) (Ev.now _))

end Go.Proofs.Ytcmhkgpalfljbaa.Pure
