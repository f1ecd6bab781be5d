import Derived.Test.YtgahidilhjijiaaPGGx1
import Derived.Test.YtgahidilhjijiaaPGGx10
import Derived.Test.YtgahidilhjijiaaPGGx11
import Derived.Test.YtgahidilhjijiaaPGGx12
import Derived.Test.YtgahidilhjijiaaPGGx13
import Derived.Test.YtgahidilhjijiaaPGGx2
import Derived.Test.YtgahidilhjijiaaPGGx3
import Derived.Test.YtgahidilhjijiaaPGGx4
import Derived.Test.YtgahidilhjijiaaPGGx5
import Derived.Test.YtgahidilhjijiaaPGGx6
import Derived.Test.YtgahidilhjijiaaPGGx7
import Derived.Test.YtgahidilhjijiaaPGGx8
import Derived.Test.YtgahidilhjijiaaPGGx9
namespace Go.Proofs.Ytgahidilhjijiaa.Pure
open Go Go.RowKit Go.Proofs.Ytgahidilhjijiaa.PGG Go.Proofs.YtgahidilhjijiaaW.PrintWords Go.Proofs.YtgahidilhjijiaaW.PrintLast Go.Proofs.YtgahidilhjijiaaW.PrintMore
set_option linter.unusedVariables false
set_option linter.unusedSimpArgs false
def In (a lo hi : Int) : Bool := decide (lo ≤ a) && decide (a ≤ hi)
theorem In_true {a lo hi : Int} : In a lo hi = true ↔ lo ≤ a ∧ a ≤ hi := by simp [In]
theorem In_ite {a lo hi : Int} : (if a ≥ lo then some (decide (a ≤ hi)) else some false) = some (In a lo hi) := by
  unfold In; by_cases h : lo ≤ a <;> simp [h]
theorem spec_l1In_eq (a b c : Int) : spec_l1In.f a b c = some (In a b c) := by unfold spec_l1In.f; exact In_ite
theorem impl_in_eq (a b c : Int) : impl_in.f a b c = some (In a b c) := by unfold impl_in.f; exact In_ite
def andn (a b : Nat) : Nat := a ^^^ (a &&& b)
theorem wrap_i64_nat (n : Nat) (h : n < 9223372036854775808) : IntKind.i64.wrap (n : Int) = n := by
  rw [IntKind.wrap_i64]; omega
theorem ofInt_nat (n : Nat) : BitVec.ofInt 64 (n : Int) = BitVec.ofNat 64 n := BitVec.ofInt_natCast 64 n
theorem bits_and (a b : Nat) (ha : a < 9223372036854775808) (hb : b < 9223372036854775808) : Go.bits .and .i64 a b = ((a &&& b : Nat) : Int) := by
  show IntKind.i64.wrap (((BitVec.ofInt 64 (a : Int)) &&& (BitVec.ofInt 64 (b : Int))).toNat : Int) = _
  rw [ofInt_nat, ofInt_nat, BitVec.toNat_and, BitVec.toNat_ofNat, BitVec.toNat_ofNat, Nat.mod_eq_of_lt (by omega), Nat.mod_eq_of_lt (by omega)]
  exact wrap_i64_nat _ (Nat.lt_of_le_of_lt Nat.and_le_left ha)
theorem Ev.pos {α : Type} {c : Prop} [Decidable c] {A B : Nat → Option α} {r : α} (h : c) (e : Ev A r) : Ev (fun k => if c then A k else B k) r := Ev.congr (fun _ => if_pos h) e
theorem Ev.neg {α : Type} {c : Prop} [Decidable c] {A B : Nat → Option α} {r : α} (h : ¬ c) (e : Ev B r) : Ev (fun k => if c then A k else B k) r := Ev.congr (fun _ => if_neg h) e
theorem Ev.bindE {α β : Type} {g : Option α} {f : Nat → α → Option β} {a : α} {r : β} (h : g = some a) (k : Ev (fun n => f n a) r) : Ev (fun n => g.bind (f n)) r := by subst h; exact k
theorem Ev.at_ {α : Type} {g : Nat → Option α} {r r' : α} (h : Ev g r) (e : r = r') : Ev g r' := e ▸ h
theorem Ev.one {α : Type} {g : Nat → Option α} {r r' : α} (h : Ev g r) (h' : Ev g r') : r = r' := by
  obtain ⟨K, h⟩ := h; obtain ⟨K', h'⟩ := h'
  have a := h (max K K') (by omega); have b := h' (max K K') (by omega)
  rw [a] at b; exact Option.some.inj b
def Both {α : Type} (P : α → Prop) (g f : Nat → Option α) : Prop := ∃ r, Ev g r ∧ Ev f r ∧ P r
theorem Both.now {α : Type} {P : α → Prop} (r : α) (h : P r) : Both P (fun _ => some r) (fun _ => some r) := ⟨r, Ev.now r, Ev.now r, h⟩
theorem Both.mono {α : Type} {P Q : α → Prop} {g f : Nat → Option α} (h : Both P g f) (hq : ∀ r, P r → Q r) : Both Q g f := by obtain ⟨r, a, b, c⟩ := h; exact ⟨r, a, b, hq r c⟩
theorem Both.congrL {α : Type} {P : α → Prop} {g g' f : Nat → Option α} (e : ∀ k, g k = g' k) (h : Both P g' f) : Both P g f := by obtain ⟨r, a, b, c⟩ := h; exact ⟨r, a.congr e, b, c⟩
theorem Both.congrR {α : Type} {P : α → Prop} {g f f' : Nat → Option α} (e : ∀ k, f k = f' k) (h : Both P g f') : Both P g f := by obtain ⟨r, a, b, c⟩ := h; exact ⟨r, a, b.congr e, c⟩
theorem Both.posL {α : Type} {P : α → Prop} {c : Prop} [Decidable c] {A B f : Nat → Option α} (h : c) (e : Both P A f) : Both P (fun k => if c then A k else B k) f := e.congrL (fun _ => if_pos h)
theorem Both.negL {α : Type} {P : α → Prop} {c : Prop} [Decidable c] {A B f : Nat → Option α} (h : ¬ c) (e : Both P B f) : Both P (fun k => if c then A k else B k) f := e.congrL (fun _ => if_neg h)
theorem Both.posR {α : Type} {P : α → Prop} {c : Prop} [Decidable c] {A B f : Nat → Option α} (h : c) (e : Both P f A) : Both P f (fun k => if c then A k else B k) := e.congrR (fun _ => if_pos h)
theorem Both.negR {α : Type} {P : α → Prop} {c : Prop} [Decidable c] {A B f : Nat → Option α} (h : ¬ c) (e : Both P f B) : Both P f (fun k => if c then A k else B k) := e.congrR (fun _ => if_neg h)
theorem Both.ite {α : Type} {P : α → Prop} {c : Prop} [Decidable c] {A B A' B' : Nat → Option α} (h1 : c → Both P A A') (h2 : ¬ c → Both P B B') : Both P (fun k => if c then A k else B k) (fun k => if c then A' k else B' k) := by
  by_cases h : c
  · exact ((h1 h).posL h).posR h
  · exact ((h2 h).negL h).negR h
theorem Both.stepL {α : Type} {P : α → Prop} {g g' f : Nat → Option α} (e : ∀ k, g (k + 1) = g' k) (h : Both P g' f) : Both P g f := by obtain ⟨r, a, b, c⟩ := h; exact ⟨r, a.step e, b, c⟩
theorem Both.stepR {α : Type} {P : α → Prop} {g f f' : Nat → Option α} (e : ∀ k, f (k + 1) = f' k) (h : Both P g f') : Both P g f := by obtain ⟨r, a, b, c⟩ := h; exact ⟨r, a, b.step e, c⟩
theorem Both.bindL {α β : Type} {P : β → Prop} {g : Nat → Option α} {F : Nat → α → Option β} {f : Nat → Option β} {a : α} (h : Ev g a) (e : Both P (fun k => F k a) f) : Both P (fun k => (g k).bind (F k)) f := by obtain ⟨r, x, y, c⟩ := e; exact ⟨r, Ev.bind h x, y, c⟩
theorem Both.bindR {α β : Type} {P : β → Prop} {g : Nat → Option α} {F : Nat → α → Option β} {f : Nat → Option β} {a : α} (h : Ev g a) (e : Both P f (fun k => F k a)) : Both P f (fun k => (g k).bind (F k)) := by obtain ⟨r, x, y, c⟩ := e; exact ⟨r, x, Ev.bind h y, c⟩
theorem Both.bindEL {α β : Type} {P : β → Prop} {g : Option α} {F : Nat → α → Option β} {f : Nat → Option β} {a : α} (h : g = some a) (e : Both P (fun k => F k a) f) : Both P (fun k => g.bind (F k)) f := by subst h; exact e
theorem Both.bindER {α β : Type} {P : β → Prop} {g : Option α} {F : Nat → α → Option β} {f : Nat → Option β} {a : α} (h : g = some a) (e : Both P f (fun k => F k a)) : Both P f (fun k => g.bind (F k)) := by subst h; exact e
theorem Both.bind2 {α β : Type} {P : β → Prop} {Q : α → Prop} {g g' : Nat → Option α} {F F' : Nat → α → Option β} (h : Both Q g g') (e : ∀ a, Q a → Both P (fun k => F k a) (fun k => F' k a)) : Both P (fun k => (g k).bind (F k)) (fun k => (g' k).bind (F' k)) := by
  obtain ⟨a, x, y, c⟩ := h
  exact ((e a c).bindL x).bindR y
theorem w1 (i : Nat) (h : i < 4611686018427387904) : wrap64 ((i : Int) + 1) = ((i + 1 : Nat) : Int) := by unfold wrap64; omega
theorem wrap_id (x : Int) (h0 : -9223372036854775808 ≤ x) (h1 : x ≤ 9223372036854775807) : wrap64 x = x := by unfold wrap64; omega
theorem rd_nat (l : List Int) (i : Nat) (h : i < l.length) : rd l (i : Int) = l[i] := by unfold rd; simp [List.getD, h]
theorem rdOf_nat {α : Type} (d : α) (l : List α) (i : Nat) (h : i < l.length) : rdOf d l (i : Int) = l[i] := by unfold rdOf; simp [List.getD, h]
theorem set_take {α : Type} (l : List α) (i : Nat) (v : α) (h : i < l.length) : (l.set i v).take (i + 1) = l.take i ++ [v] := by
  rw [List.take_succ_eq_append_getElem (by simpa using h), List.take_set_of_le (Nat.le_refl i)]; simp
theorem u64_nat (i : Nat) (h : i < 9223372036854775808) : IntKind.u64.wrap (i : Int) = (i : Int) := by
  have : IntKind.u64.wrap (i : Int) = (i : Int) % 18446744073709551616 := by simp [IntKind.wrap, IntKind.bits, IntKind.signed]
  rw [this]; omega
theorem shl_one (n : Nat) (h : n ≤ 60) : shl .i64 1 (n : Int) = ((2 ^ n : Nat) : Int) := by
  have hb : IntKind.i64.bits = 64 := rfl
  unfold shl
  rw [Int.toNat_natCast, hb, Nat.min_eq_left (by omega), Int.one_mul]
  have h1 : 2 ^ n ≤ 2 ^ 60 := Nat.pow_le_pow_right (by decide) h
  have h2 : ((2 : Int) ^ n) = ((2 ^ n : Nat) : Int) := by rw [Int.natCast_pow]; rfl
  rw [h2]; exact wrap_i64_nat _ (by omega)
def bitM (x : Int) (i : Nat) : Bool := Go.bits .and .i64 (shr .i64 x (i : Int)) 1 == 1
def modelM (n : Nat) (x : Int) : List Bool := (List.range n).map (fun i => bitM x i)
theorem modelM_len (n : Nat) (x : Int) : (modelM n x).length = n := by simp [modelM]
theorem spec_l4Model_loop (n : Nat) (hn : n ≤ 1048576) (x : Int) : ∀ (d i : Nat) (acc : List Bool), i + d = n → acc.length = n → acc.take i = (modelM n x).take i → Ev (fun k => spec_l4Model.l0 k x acc (n : Int) (i : Int)) (modelM n x)
  | 0, i, acc, hi, ha, ht => by
    refine Ev.step (fun k => spec_l4Model.l0.eq_2 ..) (Ev.neg (by omega) ?_)
    rw [List.take_of_length_le (by omega), List.take_of_length_le (by rw [modelM_len]; omega)] at ht
    rw [ht]; exact Ev.now _
  | d + 1, i, acc, hi, ha, ht => by
    refine Ev.step (fun k => spec_l4Model.l0.eq_2 ..) ?_
    rw [u64_nat i (by omega), w1 i (by omega), Int.toNat_natCast]
    refine Ev.pos (by omega) <| Ev.pos (by omega) <| Ev.pos (by omega) <| Ev.pos (by omega) ?_
    refine spec_l4Model_loop n hn x d (i + 1) _ (by omega) (by simpa using ha) ?_
    rw [set_take _ _ _ (by omega), ht, List.take_succ_eq_append_getElem (l := modelM n x) (by rw [modelM_len]; omega)]
    simp [modelM, bitM]
theorem spec_l4Model_ev (n : Nat) (hn : n ≤ 1048576) (x : Int) : Ev (fun k => spec_l4Model.f k (n : Int) x) (modelM n x) := by
  unfold spec_l4Model.f
  refine Ev.pos (by omega) <| Ev.pos (by omega) <| Ev.bindE rfl ?_
  rw [Int.toNat_natCast, List.length_replicate]
  exact spec_l4Model_loop n hn x n 0 _ (by omega) (by simp) (by simp)
theorem impl_model_loop (n : Nat) (hn : n ≤ 1048576) (x : Int) : ∀ (d i : Nat) (acc : List Bool), i + d = n → acc.length = n → acc.take i = (modelM n x).take i → Ev (fun k => impl_model.l0 k x acc (n : Int) (i : Int)) (modelM n x)
  | 0, i, acc, hi, ha, ht => by
    refine Ev.step (fun k => impl_model.l0.eq_2 ..) (Ev.neg (by omega) ?_)
    rw [List.take_of_length_le (by omega), List.take_of_length_le (by rw [modelM_len]; omega)] at ht
    rw [ht]; exact Ev.now _
  | d + 1, i, acc, hi, ha, ht => by
    refine Ev.step (fun k => impl_model.l0.eq_2 ..) ?_
    rw [w1 i (by omega), Int.toNat_natCast]
    refine Ev.pos (by omega) <| Ev.pos (by omega) <| Ev.pos (by omega) ?_
    refine impl_model_loop n hn x d (i + 1) _ (by omega) (by simpa using ha) ?_
    rw [set_take _ _ _ (by omega), ht, List.take_succ_eq_append_getElem (l := modelM n x) (by rw [modelM_len]; omega)]
    simp [modelM, bitM]
theorem impl_model_ev (n : Nat) (hn : n ≤ 1048576) (x : Int) : Ev (fun k => impl_model.f k (n : Int) x) (modelM n x) := by
  unfold impl_model.f
  refine Ev.pos (by omega) <| Ev.pos (by omega) <| Ev.bindE rfl ?_
  rw [Int.toNat_natCast, List.length_replicate]
  exact impl_model_loop n hn x n 0 _ (by omega) (by simp) (by simp)
def GoodK (v m : Int) : Bool := In v 0 65535 && In m 0 65535 && (Go.bits .and .i64 v m == 0)
def GoodS (lo hi : Int) : Bool := In lo 0 65535 && In hi 0 65535 && decide (lo ≤ hi)
def JoinK (a b c d : Int) : Int × Int := (Go.bits .andNot .i64 a (Go.bits .or .i64 (Go.bits .or .i64 b d) (Go.bits .xor .i64 a c)), Go.bits .or .i64 (Go.bits .or .i64 b d) (Go.bits .xor .i64 a c))
def JoinS (a b c d : Int) : Int × Int := (mn a c, mx b d)
def MeetS (a b c d : Int) : Int × Int × Bool := if mx a c > mn b d then (0, 0, false) else (mx a c, mn b d, true)
def LessS (a b c d : Int) : Int × Int × Int × Int × Bool := if a ≥ d then (0, 0, 0, 0, false) else (a, mn b (wrap64 (d - 1)), mx c (wrap64 (a + 1)), d, true)
theorem Gateb_nat (l : List S69) (i : Nat) (h : i < l.length) : rd_T69 l (i : Int) = l[i] := by unfold rd_T69; simp [List.getD, h]
theorem rdL_nat (l : List (List Int)) (i : Nat) (h : i < l.length) : rd_L2 l (i : Int) = l[i] := by unfold rd_L2; simp [List.getD, h]
def gok (g : S69) (j : Nat) : Prop := (g.f0 = 1 ∧ g.f1 = 0 ∧ g.f2 = 0) ∨ (g.f0 = 2 ∧ (0 ≤ g.f1 ∧ g.f1 < j) ∧ g.f2 = 0) ∨ ((g.f0 = 3 ∨ g.f0 = 4 ∨ g.f0 = 5) ∧ (0 ≤ g.f1 ∧ g.f1 < j) ∧ (0 ≤ g.f2 ∧ g.f2 < j))
def GatesOk (l : List S69) (i : Nat) (r : Bool) : Prop := r = true → (1 ≤ l.length ∧ l.length ≤ 12) ∧ ∀ j (h : j < l.length), i ≤ j → gok l[j] j
theorem goodGates_loop (l : List S69) (hl : l.length ≤ 1099511627776) : ∀ (d i : Nat), i + d = l.length → Both (GatesOk l i) (fun k => spec_GoodGates.l0 k l l (l.length : Int) (i : Int)) (fun k => impl_GoodGates.l0 k l l (l.length : Int) (i : Int))
  | 0, i, hi => by
    refine Both.stepL (fun k => spec_GoodGates.l0.eq_2 ..) (Both.stepR (fun k => impl_GoodGates.l0.eq_2 ..) ?_)
    refine Both.negL (by omega) (Both.negR (by omega) (Both.bindEL (spec_l1In_eq ..) (Both.bindER (impl_in_eq ..) (Both.now _ ?_))))
    intro hr
    have := In_true.1 hr
    exact ⟨by omega, fun j hj hij => by omega⟩
  | d + 1, i, hi => by
    have ih := goodGates_loop l hl d (i + 1) (by omega)
    have hil : i < l.length := by omega
    refine Both.stepL (fun k => spec_GoodGates.l0.eq_2 ..) (Both.stepR (fun k => impl_GoodGates.l0.eq_2 ..) ?_)
    refine Both.posL (by omega) (Both.posL (by omega) (Both.posL (by omega) ?_))
    refine Both.posR (by omega) (Both.posR (by omega) (Both.posR (by omega) ?_))
    refine Both.bindEL (spec_l1In_eq ..) (Both.bindEL (spec_l1In_eq ..) ?_)
    rw [Gateb_nat l i hil, w1 i (by omega)]
    have em : wrap64 ((i : Int) - 1) = (i : Int) - 1 := wrap_id _ (by omega) (by omega)
    rw [em]
    have fin : ∀ r, GatesOk l (i + 1) r → gok l[i] i → GatesOk l i r := by
      intro r h h1 hr
      obtain ⟨a, c⟩ := h hr
      refine ⟨a, fun j hj hij => ?_⟩
      by_cases e : i = j
      · subst e; exact h1
      · exact c j hj (by omega)
    have bad : Both (GatesOk l i) (fun _ => some false) (fun _ => some false) := Both.now _ (fun h => by cases h)
    have two : (l[i].f0 = 3 ∨ l[i].f0 = 4 ∨ l[i].f0 = 5) → Both (GatesOk l i)
        (fun k => spec_GoodGates.j1 k l (In l[i].f1 0 ((i : Int) - 1)) (In l[i].f2 0 ((i : Int) - 1)) l (l.length : Int) (i : Int) true)
        (fun k => impl_GoodGates.j1 k l (i : Int) false l (l.length : Int) (i : Int) true l[i].f0 l[i].f1 l[i].f2) := by
      intro hk
      refine Both.stepL (fun k => spec_GoodGates.j1.eq_2 ..) (Both.stepR (fun k => impl_GoodGates.j1.eq_2 ..) ?_)
      rw [em, w1 i (by omega)]
      refine Both.posL rfl (Both.posR rfl (Both.bindER (impl_in_eq ..) (Both.ite (fun h1 => Both.bindER (impl_in_eq ..) (Both.ite (fun h2 => ih.mono (fun r hr => fin r hr ?_)) (fun _ => bad))) (fun _ => bad))))
      have a := In_true.1 h1; have b := In_true.1 h2
      exact .inr (.inr ⟨hk, by omega, by omega⟩)
    refine Both.ite (fun h1 => Both.ite (fun h2 => Both.ite (fun h3 => ih.mono (fun r hr => fin r hr (.inl ⟨h1, h2, h3⟩))) (fun _ => bad)) (fun _ => bad)) (fun n1 => ?_)
    refine Both.ite (fun h1 => Both.bindER (impl_in_eq ..) (Both.ite (fun h2 => Both.ite (fun h3 => ih.mono (fun r hr => fin r hr (.inr (.inl ⟨h1, by have := In_true.1 h2; omega, h3⟩)))) (fun _ => bad)) (fun _ => bad))) (fun n2 => ?_)
    refine Both.ite (fun h1 => ?_) (fun n3 => Both.ite (fun h1 => ?_) (fun n4 => ?_))
    · rw [show (l[i].f0 == 3) = true by simpa using h1]; exact two (.inl h1)
    · rw [show (l[i].f0 == 4) = true by simpa using h1]; exact two (.inr (.inl h1))
    · by_cases h1 : l[i].f0 = 5
      · rw [show (l[i].f0 == 5) = true by simpa using h1]; exact two (.inr (.inr h1))
      · rw [show (l[i].f0 == 5) = false by simpa using h1]
        refine Both.stepL (fun k => spec_GoodGates.j1.eq_2 ..) (Both.stepR (fun k => impl_GoodGates.j1.eq_2 ..) ?_)
        exact Both.negL (by simp) (Both.negR (by simp) (Both.negR (by simp) bad))
theorem goodGates_both (l : List S69) (hl : l.length ≤ 1099511627776) : Both (GatesOk l 0) (fun k => spec_GoodGates.f k l) (fun k => impl_GoodGates.f k l) := by
  unfold spec_GoodGates.f impl_GoodGates.f
  exact goodGates_loop l hl l.length 0 (by omega)
def inpsFrom : Nat → List S69 → List Int
  | _, [] => []
  | i, g :: gs => if g.f0 = 1 then (i : Int) :: inpsFrom (i + 1) gs else inpsFrom (i + 1) gs
def inps (l : List S69) : List Int := inpsFrom 0 l
theorem inpsFrom_len : ∀ (l : List S69) (i : Nat), (inpsFrom i l).length ≤ l.length
  | [], _ => by simp [inpsFrom]
  | g :: gs, i => by
    have := inpsFrom_len gs (i + 1)
    unfold inpsFrom; split <;> simp <;> omega
theorem inpsFrom_mem : ∀ (l : List S69) (i : Nat) (x : Int), x ∈ inpsFrom i l → (i : Int) ≤ x ∧ x < ((i + l.length : Nat) : Int)
  | [], _, _, h => by simp [inpsFrom] at h
  | g :: gs, i, x, h => by
    have ih := inpsFrom_mem gs (i + 1) x
    have hl : (g :: gs).length = gs.length + 1 := rfl
    unfold inpsFrom at h
    split at h
    · rcases List.mem_cons.1 h with h | h
      · omega
      · have := ih h; omega
    · have := ih h; omega
theorem inps_len (l : List S69) : (inps l).length ≤ l.length := inpsFrom_len l 0
theorem spec_l8Inputs_loop (l : List S69) (hl : l.length ≤ 1099511627776) : ∀ (d i : Nat) (acc : List Int), i + d = l.length → acc.length ≤ i → Ev (fun k => spec_l8Inputs.l0 k acc l (l.length : Int) (i : Int)) (acc ++ inpsFrom i (l.drop i))
  | 0, i, acc, hi, ha => by
    refine Ev.step (fun k => spec_l8Inputs.l0.eq_2 ..) (Ev.neg (by omega) ?_)
    rw [List.drop_eq_nil_of_le (by omega)]; simp only [inpsFrom, List.append_nil]; exact Ev.now _
  | d + 1, i, acc, hi, ha => by
    have hil : i < l.length := by omega
    refine Ev.step (fun k => spec_l8Inputs.l0.eq_2 ..) (Ev.pos (by omega) (Ev.pos (by omega) (Ev.pos (by omega) ?_)))
    rw [Gateb_nat l i hil, w1 i (by omega), List.drop_eq_getElem_cons hil]
    unfold inpsFrom
    by_cases h : l[i].f0 = 1
    · rw [if_pos h]
      refine Ev.pos h (Ev.pos (by omega) ?_)
      have := spec_l8Inputs_loop l hl d (i + 1) (acc ++ [(i : Int)]) (by omega) (by simp; omega)
      rw [List.append_assoc] at this; exact this
    · rw [if_neg h]
      exact Ev.neg h (spec_l8Inputs_loop l hl d (i + 1) acc (by omega) (by omega))
theorem spec_l8Inputs_ev (l : List S69) (hl : l.length ≤ 1099511627776) : Ev (fun k => spec_l8Inputs.f k l) (inps l) := by
  unfold spec_l8Inputs.f
  exact spec_l8Inputs_loop l hl l.length 0 [] (by omega) (by simp)
theorem impl_inputs_loop (l : List S69) (hl : l.length ≤ 1099511627776) : ∀ (d i : Nat) (acc : List Int), i + d = l.length → acc.length ≤ i → Ev (fun k => impl_inputs.l0 k acc l (l.length : Int) (i : Int)) (acc ++ inpsFrom i (l.drop i))
  | 0, i, acc, hi, ha => by
    refine Ev.step (fun k => impl_inputs.l0.eq_2 ..) (Ev.neg (by omega) ?_)
    rw [List.drop_eq_nil_of_le (by omega)]; simp only [inpsFrom, List.append_nil]; exact Ev.now _
  | d + 1, i, acc, hi, ha => by
    have hil : i < l.length := by omega
    refine Ev.step (fun k => impl_inputs.l0.eq_2 ..) (Ev.pos (by omega) (Ev.pos (by omega) (Ev.pos (by omega) ?_)))
    rw [Gateb_nat l i hil, w1 i (by omega), List.drop_eq_getElem_cons hil]
    unfold inpsFrom
    by_cases h : l[i].f0 = 1
    · rw [if_pos h]
      refine Ev.pos h (Ev.pos (by omega) ?_)
      have := impl_inputs_loop l hl d (i + 1) (acc ++ [(i : Int)]) (by omega) (by simp; omega)
      rw [List.append_assoc] at this; exact this
    · rw [if_neg h]
      exact Ev.neg h (impl_inputs_loop l hl d (i + 1) acc (by omega) (by omega))
theorem impl_inputs_ev (l : List S69) (hl : l.length ≤ 1099511627776) : Ev (fun k => impl_inputs.f k l) (inps l) := by
  unfold impl_inputs.f
  exact impl_inputs_loop l hl l.length 0 [] (by omega) (by simp)
theorem spec_InputsBy_loop (mo : List Bool) (hm : mo.length ≤ 1099511627776) (xs : List Int) (hx : ∀ x ∈ xs, 0 ≤ x ∧ x < (mo.length : Int)) (hl : xs.length ≤ 1099511627776) : ∀ (d i : Nat) (acc : List Bool), i + d = xs.length → acc.length ≤ i → Ev (fun k => spec_InputsBy.l0 k mo acc xs (xs.length : Int) (i : Int)) (acc ++ (xs.drop i).map (fun x => rdOf false mo x), true)
  | 0, i, acc, hi, ha => by
    refine Ev.step (fun k => spec_InputsBy.l0.eq_2 ..) (Ev.neg (by omega) ?_)
    rw [List.drop_eq_nil_of_le (by omega)]; simp only [List.map_nil, List.append_nil]; exact Ev.now _
  | d + 1, i, acc, hi, ha => by
    have hil : i < xs.length := by omega
    have hxi := hx xs[i] (List.getElem_mem hil)
    refine Ev.step (fun k => spec_InputsBy.l0.eq_2 ..) (Ev.pos (by omega) (Ev.pos (by omega) (Ev.pos (by omega) ?_)))
    rw [rd_nat xs i hil, w1 i (by omega), List.drop_eq_getElem_cons hil]
    refine Ev.pos hxi.1 (Ev.pos hxi.2 (Ev.pos (by omega) ?_))
    have := spec_InputsBy_loop mo hm xs hx hl d (i + 1) (acc ++ [rdOf false mo xs[i]]) (by omega) (by simp; omega)
    rw [List.append_assoc] at this; exact this
theorem impl_InputsBy_loop (mo : List Bool) (hm : mo.length ≤ 1099511627776) (xs : List Int) (hx : ∀ x ∈ xs, 0 ≤ x ∧ x < (mo.length : Int)) (hl : xs.length ≤ 1099511627776) : ∀ (d i : Nat) (acc : List Bool), i + d = xs.length → acc.length ≤ i → Ev (fun k => impl_InputsBy.l0 k mo acc xs (xs.length : Int) (i : Int)) (acc ++ (xs.drop i).map (fun x => rdOf false mo x), true)
  | 0, i, acc, hi, ha => by
    refine Ev.step (fun k => impl_InputsBy.l0.eq_2 ..) (Ev.neg (by omega) ?_)
    rw [List.drop_eq_nil_of_le (by omega)]; simp only [List.map_nil, List.append_nil]; exact Ev.now _
  | d + 1, i, acc, hi, ha => by
    have hil : i < xs.length := by omega
    have hxi := hx xs[i] (List.getElem_mem hil)
    refine Ev.step (fun k => impl_InputsBy.l0.eq_2 ..) (Ev.pos (by omega) (Ev.pos (by omega) (Ev.pos (by omega) ?_)))
    rw [rd_nat xs i hil, w1 i (by omega), List.drop_eq_getElem_cons hil]
    refine Ev.pos hxi.1 (Ev.pos hxi.2 (Ev.pos (by omega) ?_))
    have := impl_InputsBy_loop mo hm xs hx hl d (i + 1) (acc ++ [rdOf false mo xs[i]]) (by omega) (by simp; omega)
    rw [List.append_assoc] at this; exact this
def insBy (l : List S69) (mo : List Bool) : List Bool := (inps l).map (fun x => rdOf false mo x)
theorem inputsBy_both (l : List S69) (mo : List Bool) (hl : l.length ≤ 1048576) (hmo : mo.length ≤ 1048576) : Both (fun r => r.1.length ≤ 1048576) (fun k => spec_InputsBy.f k l mo) (fun k => impl_InputsBy.f k l mo) := by
  unfold spec_InputsBy.f impl_InputsBy.f
  have bad : Both (fun r : List Bool × Bool => r.1.length ≤ 1048576) (fun k => spec_InputsBy.j0 k l mo true) (fun k => impl_InputsBy.j0 k l mo true) :=
    Both.stepL (fun k => spec_InputsBy.j0.eq_2 ..) (Both.stepR (fun k => impl_InputsBy.j0.eq_2 ..) (Both.posL rfl (Both.posR rfl (Both.now _ (by simp)))))
  refine (goodGates_both _ (by omega)).bind2 (fun a ha => Both.ite (fun h => ?_) (fun h => bad))
  by_cases e : mo.length = l.length
  · rw [show ((mo.length : Int) != (l.length : Int)) = false by simp [e]]
    refine Both.stepL (fun k => spec_InputsBy.j0.eq_2 ..) (Both.stepR (fun k => impl_InputsBy.j0.eq_2 ..) (Both.negL (by simp) (Both.negR (by simp) (Both.bindL (spec_l8Inputs_ev _ (by omega)) (Both.bindR (impl_inputs_ev _ (by omega)) ?_)))))
    have hil := inps_len l
    have hx : ∀ x ∈ inps l, 0 ≤ x ∧ x < (mo.length : Int) := fun x hx => by have := inpsFrom_mem l 0 x hx; omega
    have h1 := spec_InputsBy_loop mo (by omega) (inps l) hx (by omega) (inps l).length 0 [] (by omega) (by simp)
    have h2 := impl_InputsBy_loop mo (by omega) (inps l) hx (by omega) (inps l).length 0 [] (by omega) (by simp)
    exact ⟨_, h1, h2, by simp; omega⟩
  · rw [show ((mo.length : Int) != (l.length : Int)) = true by simp; omega]; exact bad
def gval (g : S69) (ins acc : List Bool) : Bool :=
  if g.f0 = 1 then ins.getD 0 false
  else if g.f0 = 2 then !(acc.getD g.f1.toNat false)
  else if g.f0 = 3 then acc.getD g.f1.toNat false && acc.getD g.f2.toNat false
  else if g.f0 = 4 then acc.getD g.f1.toNat false || acc.getD g.f2.toNat false
  else acc.getD g.f1.toNat false != acc.getD g.f2.toNat false
def evalFrom : List S69 → List Bool → List Bool → List Bool
  | [], _, acc => acc
  | g :: gs, ins, acc => evalFrom gs (if g.f0 = 1 then ins.drop 1 else ins) (acc ++ [gval g ins acc])
def evalM (l : List S69) (ins : List Bool) : List Bool := evalFrom l ins []
theorem evalFrom_len : ∀ (l : List S69) (ins acc : List Bool), (evalFrom l ins acc).length = acc.length + l.length
  | [], ins, acc => by simp [evalFrom]
  | g :: gs, ins, acc => by unfold evalFrom; rw [evalFrom_len gs]; simp; omega
theorem evalM_len (l : List S69) (ins : List Bool) : (evalM l ins).length = l.length := by unfold evalM; rw [evalFrom_len]; simp
theorem rdOf_getD {α : Type} (d : α) (l : List α) (x : Int) : rdOf d l x = l.getD x.toNat d := rfl
theorem spec_l8Eval_loop (l : List S69) (ins : List Bool) (hl : l.length ≤ 1099511627776) (hok : ∀ j (h : j < l.length), gok l[j] j) : ∀ (d i nx : Nat) (acc : List Bool), i + d = l.length → acc.length = i → nx ≤ i → nx + (inpsFrom i (l.drop i)).length = ins.length →
    Ev (fun k => spec_l8Eval.l0 k ins acc (nx : Int) l (l.length : Int) (i : Int)) (evalFrom (l.drop i) (ins.drop nx) acc)
  | 0, i, nx, acc, hi, ha, hnx, hn => by
    refine Ev.step (fun k => spec_l8Eval.l0.eq_2 ..) (Ev.neg (by omega) ?_)
    rw [List.drop_eq_nil_of_le (by omega)]; unfold evalFrom; exact Ev.now _
  | d + 1, i, nx, acc, hi, ha, hnx, hn => by
    have hil : i < l.length := by omega
    have hg := hok i hil
    refine Ev.step (fun k => spec_l8Eval.l0.eq_2 ..) (Ev.pos (by omega) <| Ev.pos (by omega) <| Ev.pos (by omega) ?_)
    rw [List.drop_eq_getElem_cons hil] at hn
    rw [Gateb_nat l i hil, w1 i (by omega), List.drop_eq_getElem_cons hil]
    unfold evalFrom
    have ih := fun nx' acc' h1 h2 h3 => spec_l8Eval_loop l ins hl hok d (i + 1) nx' acc' (by omega) h1 h2 h3
    unfold inpsFrom at hn
    rcases hg with ⟨h0, _, _⟩ | ⟨h0, h1, _⟩ | ⟨h0, h1, h2⟩
    · rw [if_pos h0] at hn
      rw [if_pos h0, List.drop_drop]
      simp only [List.length_cons] at hn
      refine Ev.pos h0 <| Ev.pos (by omega) <| Ev.pos (by omega) <| Ev.pos (by omega) ?_
      rw [w1 nx (by omega)]
      refine Ev.at_ (ih (nx + 1) _ (by simp [ha]) (by omega) (by omega)) ?_
      congr 2; unfold gval; rw [if_pos h0, rdOf_nat _ _ _ (by omega)]; simp [List.getD, show nx < ins.length by omega]
    · rw [if_neg (by omega)] at hn
      rw [if_neg (by omega)]
      refine Ev.neg (by omega) <| Ev.pos h0 <| Ev.pos (by omega) <| Ev.pos (by omega) <| Ev.pos (by omega) ?_
      refine Ev.at_ (ih nx _ (by simp [ha]) (by omega) hn) ?_
      congr 2; unfold gval; rw [if_neg (by omega), if_pos h0, rdOf_getD]
    · rw [if_neg (by omega)] at hn
      rw [if_neg (by omega)]
      refine Ev.neg (by omega) <| Ev.neg (by omega) ?_
      have fin : ∀ b, b = gval l[i] (ins.drop nx) acc → Ev (fun k => if acc.length < 140737488355328 then spec_l8Eval.l0 k ins (acc ++ [b]) (nx : Int) l (l.length : Int) ((i + 1 : Nat) : Int) else none) (evalFrom (l.drop (i + 1)) (ins.drop nx) (acc ++ [gval l[i] (ins.drop nx) acc])) := by
        intro b hb
        refine Ev.pos (by omega) ?_
        rw [hb]
        exact ih nx _ (by simp [ha]) (by omega) hn
      have gv : gval l[i] (ins.drop nx) acc = if l[i].f0 = 3 then acc.getD l[i].f1.toNat false && acc.getD l[i].f2.toNat false
        else if l[i].f0 = 4 then acc.getD l[i].f1.toNat false || acc.getD l[i].f2.toNat false
        else acc.getD l[i].f1.toNat false != acc.getD l[i].f2.toNat false := by unfold gval; rw [if_neg (by omega), if_neg (by omega)]
      rw [gv] at fin
      rw [gv]
      simp only [rdOf_getD]
      rcases h0 with h0 | h0 | h0
      · simp only [if_pos h0] at fin ⊢
        refine Ev.pos (by omega) <| Ev.pos (by omega) ?_
        by_cases e : acc.getD l[i].f1.toNat false = true
        · exact Ev.pos e <| Ev.pos (by omega) <| Ev.pos (by omega) (fin _ (by rw [e]; rfl))
        · have e' : acc.getD l[i].f1.toNat false = false := by simpa using e
          exact Ev.neg e (fin _ (by rw [e']; rfl))
      · simp only [if_neg (show ¬ l[i].f0 = 3 by omega), if_pos h0] at fin ⊢
        refine Ev.pos (by omega) <| Ev.pos (by omega) ?_
        by_cases e : acc.getD l[i].f1.toNat false = true
        · exact Ev.pos e (fin _ (by rw [e]; rfl))
        · have e' : acc.getD l[i].f1.toNat false = false := by simpa using e
          exact Ev.neg e <| Ev.pos (by omega) <| Ev.pos (by omega) (fin _ (by rw [e']; rfl))
      · simp only [if_neg (show ¬ l[i].f0 = 3 by omega), if_neg (show ¬ l[i].f0 = 4 by omega)] at fin ⊢
        refine Ev.pos (by omega) <| Ev.pos (by omega) <| Ev.pos (by omega) <| Ev.pos (by omega) (fin _ rfl)
theorem spec_l8Eval_ev (l : List S69) (ins : List Bool) (hl : l.length ≤ 1099511627776) (hok : ∀ j (h : j < l.length), gok l[j] j) (hn : (inps l).length = ins.length) : Ev (fun k => spec_l8Eval.f k l ins) (evalM l ins) := by
  unfold spec_l8Eval.f
  exact spec_l8Eval_loop l ins hl hok l.length 0 0 [] (by omega) rfl (by omega) (by simpa [inps] using hn)
theorem impl_eval_loop (l : List S69) (hl : l.length ≤ 1099511627776) (hok : ∀ j (h : j < l.length), gok l[j] j) : ∀ (d i : Nat) (ins acc : List Bool), i + d = l.length → acc.length = i → (inpsFrom i (l.drop i)).length = ins.length →
    Ev (fun k => impl_eval.l0 k ins acc l (l.length : Int) (i : Int)) (evalFrom (l.drop i) ins acc)
  | 0, i, ins, acc, hi, ha, hn => by
    refine Ev.step (fun k => impl_eval.l0.eq_2 ..) (Ev.neg (by omega) ?_)
    rw [List.drop_eq_nil_of_le (by omega)]; unfold evalFrom; exact Ev.now _
  | d + 1, i, ins, acc, hi, ha, hn => by
    have hil : i < l.length := by omega
    have hg := hok i hil
    refine Ev.step (fun k => impl_eval.l0.eq_2 ..) (Ev.pos (by omega) <| Ev.pos (by omega) <| Ev.pos (by omega) ?_)
    rw [List.drop_eq_getElem_cons hil] at hn
    rw [Gateb_nat l i hil, w1 i (by omega), List.drop_eq_getElem_cons hil]
    unfold evalFrom
    have ih := fun ins' acc' h1 h2 => impl_eval_loop l hl hok d (i + 1) ins' acc' (by omega) h1 h2
    unfold inpsFrom at hn
    rcases hg with ⟨h0, _, _⟩ | ⟨h0, h1, _⟩ | ⟨h0, h1, h2⟩
    · rw [if_pos h0] at hn
      rw [if_pos h0]
      simp only [List.length_cons] at hn
      refine Ev.pos h0 <| Ev.pos (by omega) <| Ev.pos (by omega) <| Ev.pos (by omega) ?_
      refine Ev.at_ (ih (ins.drop 1) _ (by simp [ha]) (by rw [List.length_drop]; omega)) ?_
      congr 2; unfold gval; rw [if_pos h0]; rfl
    · rw [if_neg (by omega)] at hn
      rw [if_neg (by omega)]
      refine Ev.neg (by omega) <| Ev.pos h0 <| Ev.pos (by omega) <| Ev.pos (by omega) <| Ev.pos (by omega) ?_
      refine Ev.at_ (ih ins _ (by simp [ha]) hn) ?_
      congr 2; unfold gval; rw [if_neg (by omega), if_pos h0, rdOf_getD]
    · rw [if_neg (by omega)] at hn
      rw [if_neg (by omega)]
      refine Ev.neg (by omega) <| Ev.neg (by omega) ?_
      have fin : ∀ b, b = gval l[i] ins acc → Ev (fun k => if acc.length < 140737488355328 then impl_eval.l0 k ins (acc ++ [b]) l (l.length : Int) ((i + 1 : Nat) : Int) else none) (evalFrom (l.drop (i + 1)) ins (acc ++ [gval l[i] ins acc])) := by
        intro b hb
        refine Ev.pos (by omega) ?_
        rw [hb]
        exact ih ins _ (by simp [ha]) hn
      have gv : gval l[i] ins acc = if l[i].f0 = 3 then acc.getD l[i].f1.toNat false && acc.getD l[i].f2.toNat false
        else if l[i].f0 = 4 then acc.getD l[i].f1.toNat false || acc.getD l[i].f2.toNat false
        else acc.getD l[i].f1.toNat false != acc.getD l[i].f2.toNat false := by unfold gval; rw [if_neg (by omega), if_neg (by omega)]
      rw [gv] at fin
      rw [gv]
      simp only [rdOf_getD]
      rcases h0 with h0 | h0 | h0
      · simp only [if_pos h0] at fin ⊢
        refine Ev.pos (by omega) <| Ev.pos (by omega) ?_
        by_cases e : acc.getD l[i].f1.toNat false = true
        · exact Ev.pos e <| Ev.pos (by omega) <| Ev.pos (by omega) (fin _ (by rw [e]; rfl))
        · have e' : acc.getD l[i].f1.toNat false = false := by simpa using e
          exact Ev.neg e (fin _ (by rw [e']; rfl))
      · simp only [if_neg (show ¬ l[i].f0 = 3 by omega), if_pos h0] at fin ⊢
        refine Ev.pos (by omega) <| Ev.pos (by omega) ?_
        by_cases e : acc.getD l[i].f1.toNat false = true
        · exact Ev.pos e (fin _ (by rw [e]; rfl))
        · have e' : acc.getD l[i].f1.toNat false = false := by simpa using e
          exact Ev.neg e <| Ev.pos (by omega) <| Ev.pos (by omega) (fin _ (by rw [e']; rfl))
      · simp only [if_neg (show ¬ l[i].f0 = 3 by omega), if_neg (show ¬ l[i].f0 = 4 by omega)] at fin ⊢
        refine Ev.pos h0 <| Ev.pos (by omega) <| Ev.pos (by omega) <| Ev.pos (by omega) <| Ev.pos (by omega) (fin _ rfl)
theorem impl_eval_ev (l : List S69) (ins : List Bool) (hl : l.length ≤ 1099511627776) (hok : ∀ j (h : j < l.length), gok l[j] j) (hn : (inps l).length = ins.length) : Ev (fun k => impl_eval.f k l ins) (evalM l ins) := by
  unfold impl_eval.f
  exact impl_eval_loop l hl hok l.length 0 ins [] (by omega) rfl (by simpa [inps] using hn)
def outM (l : List S69) (ins : List Bool) : Bool := rdOf false (evalM l ins) ((l.length : Int) - 1)
theorem impl_output_ev (l : List S69) (ins : List Bool) (hl : 1 ≤ l.length ∧ l.length ≤ 1099511627776) (hok : ∀ j (h : j < l.length), gok l[j] j) (hn : (inps l).length = ins.length) : Ev (fun k => impl_output.f k l ins) (outM l ins) := by
  unfold impl_output.f
  refine Ev.bind (impl_eval_ev l ins (by omega) hok hn) ?_
  rw [wrap_id _ (by omega) (by omega)]
  exact Ev.pos (by omega) <| Ev.pos (by rw [evalM_len]; omega) (Ev.now _)
def deposit (m : Nat) : Nat → Nat → Nat → Nat → Nat
  | 0, _, _, out => out
  | d + 1, j, n, out => if m.testBit j = true then deposit m d (j + 1) (n / 2) (out + n % 2 * 2 ^ j) else deposit m d (j + 1) n out
theorem wrap_i64 (y : Int) : IntKind.i64.wrap y = wrap64 y := by
  rw [IntKind.wrap_i64]; unfold wrap64; omega
def EndsM (x y : Int) : Int × Int := if x / 65536 = y / 65536 then (x % 65536, y % 65536) else (0, 65535)
def mayN (v m x : Nat) : Nat := if x = 1 then v ||| m else andn 65535 v
def allIn (lo hi : Int) (l : List Int) : Bool := l.all fun x => In x lo hi
def tr : List Bool → Nat → List Int
  | [], _ => []
  | b :: v, s => if b = true then (s : Int) :: tr v (s + 1) else tr v (s + 1)
def putP : List Int → Int → List Int
  | [], x => [x]
  | a :: l, x => if a < x then a :: putP l x else if a = x then a :: l else x :: a :: l
theorem l1Has_loop (l : List Int) (x : Int) (hl : l.length ≤ 1099511627776) : ∀ (d i : Nat), i + d = l.length → Ev (fun k => spec_l1Has.l0 k x l (l.length : Int) (i : Int)) (decide (x ∈ l.drop i))
  | 0, i, h => by
    rw [List.drop_eq_nil_of_le (by omega)]
    exact Ev.step (fun k => spec_l1Has.l0.eq_2 ..) (Ev.neg (by omega) (Ev.now _))
  | d + 1, i, h => by
    refine Ev.step (fun k => spec_l1Has.l0.eq_2 ..) (Ev.pos (by omega) (Ev.pos (by omega) (Ev.pos (by omega) ?_)))
    rw [rd_nat l i (by omega), w1 i (by omega), List.drop_eq_getElem_cons (show i < l.length by omega)]
    by_cases hx : l[i] = x
    · refine Ev.pos hx (Ev.at_ (Ev.now _) ?_); simp [hx]
    · refine Ev.neg hx (Ev.at_ (l1Has_loop l x hl d (i + 1) (by omega)) ?_)
      have : ¬ x = l[i] := fun h => hx h.symm
      simp only [List.mem_cons, this, false_or]
theorem l1Has_ev (l : List Int) (x : Int) (hl : l.length ≤ 1099511627776) : Ev (fun k => spec_l1Has.f k l x) (decide (x ∈ l)) := by
  have h := l1Has_loop l x hl l.length 0 (by omega)
  rw [List.drop_zero] at h
  exact h
def trp (f : Nat → Bool) : List Bool → Nat → List Int
  | [], _ => []
  | b :: v, s => if (b && f s) = true then (s : Int) :: trp f v (s + 1) else trp f v (s + 1)
def EvP {α : Type} (g : Nat → Option α) (P : α → Prop) : Prop := ∃ r, Ev g r ∧ P r
theorem EvP.now {α : Type} {P : α → Prop} (r : α) (h : P r) : EvP (fun _ => some r) P := ⟨r, Ev.now r, h⟩
theorem EvP.bind {α β : Type} {g : Nat → Option α} {f : Nat → α → Option β} {P : α → Prop} {Q : β → Prop} (h : EvP g P) (k : ∀ a, P a → EvP (fun n => f n a) Q) : EvP (fun n => (g n).bind (f n)) Q := by
  obtain ⟨a, h1, h2⟩ := h
  obtain ⟨r, h3, h4⟩ := k a h2
  exact ⟨r, Ev.bind h1 h3, h4⟩
theorem EvP.bindE {α β : Type} {g : Option α} {f : Nat → α → Option β} {P : α → Prop} {Q : β → Prop} (h : ∃ a, g = some a ∧ P a) (k : ∀ a, P a → EvP (fun n => f n a) Q) : EvP (fun n => g.bind (f n)) Q := by
  obtain ⟨a, rfl, h2⟩ := h; exact k a h2
theorem EvP.mono {α : Type} {g : Nat → Option α} {P Q : α → Prop} (h : EvP g P) (k : ∀ a, P a → Q a) : EvP g Q := by obtain ⟨a, h1, h2⟩ := h; exact ⟨a, h1, k a h2⟩
theorem EvP.ite {α : Type} {c : Prop} [Decidable c] {A B : Nat → Option α} {P : α → Prop} (h1 : c → EvP A P) (h2 : ¬ c → EvP B P) : EvP (fun k => if c then A k else B k) P := by
  by_cases h : c
  · obtain ⟨r, a, b⟩ := h1 h; exact ⟨r, Ev.pos h a, b⟩
  · obtain ⟨r, a, b⟩ := h2 h; exact ⟨r, Ev.neg h a, b⟩
theorem EvP.pos {α : Type} {c : Prop} [Decidable c] {A B : Nat → Option α} {P : α → Prop} (h : c) (e : EvP A P) : EvP (fun k => if c then A k else B k) P := EvP.ite (fun _ => e) (fun n => absurd h n)
theorem EvP.neg {α : Type} {c : Prop} [Decidable c] {A B : Nat → Option α} {P : α → Prop} (h : ¬ c) (e : EvP B P) : EvP (fun k => if c then A k else B k) P := EvP.ite (fun n => absurd n h) (fun _ => e)
theorem EvP.step {α : Type} {g f : Nat → Option α} {P : α → Prop} (h : ∀ k, g (k + 1) = f k) (e : EvP f P) : EvP g P := by obtain ⟨r, a, b⟩ := e; exact ⟨r, Ev.step h a, b⟩
theorem EvP.congr {α : Type} {g f : Nat → Option α} {P : α → Prop} (h : ∀ k, g k = f k) (e : EvP f P) : EvP g P := by obtain ⟨r, a, b⟩ := e; exact ⟨r, Ev.congr h a, b⟩
def Bytes (l : List Int) : Prop := l.length ≤ 1099511627776 ∧ ∀ y ∈ l, 0 ≤ y ∧ y ≤ 255
theorem Bytes.rd {l : List Int} (h : Bytes l) (i : Int) (h0 : 0 ≤ i) (h1 : i < (l.length : Int)) : 0 ≤ rd l i ∧ rd l i ≤ 255 := by
  obtain ⟨n, rfl⟩ := Int.eq_ofNat_of_zero_le h0
  have hn : n < l.length := by omega
  rw [rd_nat l n hn]
  exact h.2 _ (List.getElem_mem hn)
theorem u8_wf {y : Int} (h : (Lit.int .u8 y).wf = true) : 0 ≤ y ∧ y ≤ 255 := by
  have h' : (decide (IntKind.u8.min ≤ y) && decide (y ≤ IntKind.u8.max)) = true := h
  have e1 : IntKind.u8.min = 0 := by decide
  have e2 : IntKind.u8.max = 255 := by decide
  rw [e1, e2] at h'
  simpa using h'
def CurAt (a : Int) (n : Nat) : Prop := 0 ≤ a ∧ a ≤ n
theorem u64c (x : Int) : 0 ≤ wrap64 (Go.bits .and .u64 x 255) ∧ wrap64 (Go.bits .and .u64 x 255) ≤ 255 := by
  have h : Go.bits .and .u64 x 255 = IntKind.u64.wrap ((BitVec.ofInt 64 x &&& BitVec.ofInt 64 255).toNat : Int) := rfl
  have h2 : (BitVec.ofInt 64 x &&& BitVec.ofInt 64 255).toNat ≤ 255 := by
    rw [BitVec.toNat_and]
    exact Nat.and_le_right
  have h3 : ∀ n : Int, IntKind.u64.wrap n = n % 18446744073709551616 := fun n => by simp [IntKind.wrap, IntKind.bits, IntKind.signed]
  rw [h, h3]
  generalize (BitVec.ofInt 64 x &&& BitVec.ofInt 64 255).toNat = z at h2
  unfold wrap64
  omega
theorem next_ok {l : List Int} (hl : Bytes l) (a s : Int) (h0 : 0 ≤ a) (h1 : a ≤ 1152921504606846976) :
    ∃ r : Int × Int × Int, spec_l1Cur_next.f l a s = some r ∧ (0 ≤ r.1 ∧ r.1 ≤ 255 ∧ r.2.1 = a + 1) := by
  have ew : wrap64 (a + 1) = a + 1 := by unfold wrap64; omega
  unfold spec_l1Cur_next.f
  by_cases c1 : a < (l.length : Int)
  · have hr := hl.rd a h0 c1
    have er : wrap64 (rd l a) = rd l a := by unfold wrap64; omega
    rw [if_pos c1, if_pos h0, ew, if_pos (by omega)]
    exact ⟨_, rfl, by rw [er]; exact hr.1, by rw [er]; exact hr.2, rfl⟩
  · rw [if_neg c1, ew, if_neg (by omega)]
    exact ⟨_, rfl, (u64c _).1, (u64c _).2, rfl⟩
theorem tmod_lt {x n : Int} (h0 : 0 ≤ x) (hn : 0 < n) : 0 ≤ Int.tmod x n ∧ Int.tmod x n < n := by
  rw [Int.tmod_eq_emod_of_nonneg h0]
  exact ⟨Int.emod_nonneg _ (by omega), Int.emod_lt_of_pos _ hn⟩
theorem pick_ok {l : List Int} (hl : Bytes l) (a s n : Int) (h0 : 0 ≤ a) (h1 : a ≤ 1152921504606846975) :
    ∃ r : Int × Int × Int, spec_l1Cur_pick.f l a s n = some r ∧ (0 ≤ r.1 ∧ r.1 ≤ n - 1 ∨ r.1 = 0 ∧ n ≤ 1) ∧ a ≤ r.2.1 ∧ r.2.1 ≤ a + 2 := by
  unfold spec_l1Cur_pick.f
  by_cases c1 : n ≤ 1
  · rw [if_pos c1]; exact ⟨_, rfl, Or.inr ⟨rfl, c1⟩, Int.le_refl _, by show a ≤ a + 2; omega⟩
  · rw [if_neg c1]
    obtain ⟨r, hr, h2, h3, h4⟩ := next_ok hl a s h0 (by omega)
    rw [hr]; simp only [Option.bind_some]
    by_cases c2 : n > 200
    · rw [if_pos c2]
      obtain ⟨q, hq, h5, h6, h7⟩ := next_ok hl r.2.1 r.2.2 (by omega) (by omega)
      rw [hq]; simp only [Option.bind_some]
      rw [if_neg (by omega)]
      have e : wrap64 ((wrap64 (r.1 * 256)) + q.1) = r.1 * 256 + q.1 := by unfold wrap64; omega
      have := tmod_lt (x := r.1 * 256 + q.1) (n := n) (by omega) (by omega)
      refine ⟨_, rfl, Or.inl ?_, ?_, ?_⟩
      · rw [e]; omega
      · show a ≤ q.2.1; omega
      · show q.2.1 ≤ a + 2; omega
    · rw [if_neg c2, if_neg (by omega)]
      have := tmod_lt (x := r.1) (n := n) h2 (by omega)
      refine ⟨_, rfl, Or.inl ?_, ?_, ?_⟩
      · show 0 ≤ Int.tmod r.1 n ∧ Int.tmod r.1 n ≤ n - 1; omega
      · show a ≤ r.2.1; omega
      · show r.2.1 ≤ a + 2; omega
theorem one_ok {l : List Int} (hl : Bytes l) (a s n : Int) (h0 : 0 ≤ a) (h1 : a ≤ 1152921504606846975) :
    ∃ r : Bool × Int × Int, spec_l1Cur_one.f l a s n = some r ∧ a ≤ r.2.1 ∧ r.2.1 ≤ a + 2 := by
  unfold spec_l1Cur_one.f
  obtain ⟨r, hr, _, h2, h3⟩ := pick_ok hl a s n h0 h1
  rw [hr]; exact ⟨_, rfl, h2, h3⟩
theorem bytes_of {l : List Int} (h : l.length * 1 ≤ 140737488351232 ∧ ∀ y0_ ∈ l, (Lit.int .u8 y0_).wf = true) (hs : l.length ≤ 1048576) : Bytes l := ⟨by omega, fun y hy => u8_wf (h.2 y hy)⟩
theorem small_of {l0 l1 : List Int} (h : ¬ (wrap64 ((l0.length : Int) + (l1.length : Int))) > 1048576) (h0 : l0.length * 1 ≤ 140737488351232) (h1 : l1.length * 1 ≤ 140737488351232) : l0.length ≤ 1048576 ∧ l1.length ≤ 1048576 := by
  have e : wrap64 ((l0.length : Int) + (l1.length : Int)) = (l0.length : Int) + (l1.length : Int) := by unfold wrap64; omega
  rw [e] at h; omega
def Mt (v m x : Int) : Prop := 0 ≤ x ∧ x ≤ 65535 ∧ Go.bits .andNot .i64 x m = v
def jm (a b c d : Nat) : Nat := (b ||| d) ||| (a ^^^ c)
def carryB (k x y e : Nat) : Bool := decide (2 ^ k ≤ x % 2 ^ k + y % 2 ^ k + e)
theorem sameInts_loop (l : List Int) (hl : l.length ≤ 1099511627776) : ∀ (d i : Nat), i + d = l.length → Ev (fun k => laws_sameInts.l0 k l l (l.length : Int) (i : Int)) true
  | 0, i, h => Ev.step (fun k => laws_sameInts.l0.eq_2 ..) (Ev.neg (by omega) (Ev.now _))
  | d + 1, i, h => by
    refine Ev.step (fun k => laws_sameInts.l0.eq_2 ..) (Ev.pos (by omega) (Ev.pos (by omega) (Ev.pos (by omega) (Ev.pos (by omega) (Ev.pos rfl ?_)))))
    rw [w1 i (by omega)]; exact sameInts_loop l hl d (i + 1) (by omega)
theorem sameInts_self (l : List Int) (hl : l.length ≤ 1099511627776) : Ev (fun k => laws_sameInts.f k l l) true := Ev.pos rfl (sameInts_loop l hl l.length 0 (by omega))
theorem sameBools_loop (a b : List Bool) (h : a.length = b.length) (hl : a.length ≤ 1048576) : ∀ (d i : Nat), i + d = a.length → Ev (fun k => laws_sameBools.l0 k a b (a.length : Int) (i : Int)) (decide (a.drop i = b.drop i))
  | 0, i, hi => by
    rw [List.drop_eq_nil_of_le (by omega), List.drop_eq_nil_of_le (by omega)]
    exact Ev.step (fun k => laws_sameBools.l0.eq_2 ..) (Ev.neg (by omega) (Ev.at_ (Ev.now _) (by simp)))
  | d + 1, i, hi => by
    refine Ev.step (fun k => laws_sameBools.l0.eq_2 ..) (Ev.pos (by omega) (Ev.pos (by omega) (Ev.pos (by omega) (Ev.pos (by omega) ?_))))
    rw [rdOf_nat false a i (by omega), rdOf_nat false b i (by omega), w1 i (by omega), List.drop_eq_getElem_cons (show i < a.length by omega), List.drop_eq_getElem_cons (show i < b.length by omega)]
    by_cases hx : a[i] = b[i]
    · refine Ev.neg (by simp [hx]) (Ev.at_ (sameBools_loop a b h hl d (i + 1) (by omega)) ?_)
      simp only [hx, List.cons.injEq, true_and]
    · refine Ev.pos (by simpa using hx) (Ev.at_ (Ev.now _) ?_)
      simp only [List.cons.injEq, hx, false_and, decide_false]
theorem sameBools_self (a : List Bool) (hl : a.length ≤ 1048576) : Ev (fun k => laws_sameBools.f k a a) true := by
  have h := sameBools_loop a a rfl hl a.length 0 (by omega)
  unfold laws_sameBools.f
  exact Ev.pos rfl (Ev.at_ h (by simp))
theorem var_abs (n : Int) (h0 : -1000 ≤ n) (h1 : n ≤ 1000) : impl_variable.f n = some ((n.natAbs : Nat) : Int) := by
  unfold impl_variable.f
  have e : wrap64 (-n) = -n := wrap_id _ (by omega) (by omega)
  rw [e]
  by_cases h : n < -n
  · rw [if_pos h]; congr 1; omega
  · rw [if_neg h]; congr 1; omega
theorem impl_isClause_idx (p : Int → Option Bool) (l : List Int) (hl : l.length ≤ 1048576) (β : Int → Bool) (hp : ∀ x, x ∈ l → p x = some (β x)) : ∀ (d i : Nat), i + d = l.length → ∃ r, Ev (fun k => impl_isClause.idx k p l (i : Int)) r ∧ decide (r ≥ 0) = (l.drop i).any β
  | 0, i, h => ⟨-1, Ev.step (fun k => impl_isClause.idx.eq_2 ..) (Ev.neg (by omega) (Ev.now _)), by rw [List.drop_eq_nil_of_le (by omega)]; rfl⟩
  | d + 1, i, h => by
    have hi : i < l.length := by omega
    have hx := hp l[i] (List.getElem_mem hi)
    rw [List.drop_eq_getElem_cons hi, List.any_cons]
    by_cases hb : β l[i] = true
    · refine ⟨(i : Int), Ev.step (fun k => impl_isClause.idx.eq_2 ..) (Ev.pos (by omega) (Ev.pos (by omega) ?_)), by rw [hb, Bool.true_or]; exact decide_eq_true (by omega)⟩
      rw [rd_nat l i hi]; exact Ev.bindE hx (Ev.pos hb (Ev.now _))
    · obtain ⟨r, h1, h2⟩ := impl_isClause_idx p l hl β hp d (i + 1) (by omega)
      refine ⟨r, Ev.step (fun k => impl_isClause.idx.eq_2 ..) (Ev.pos (by omega) (Ev.pos (by omega) ?_)), by rw [Bool.eq_false_iff.mpr hb, Bool.false_or]; exact h2⟩
      rw [rd_nat l i hi, w1 i (by omega)]; exact Ev.bindE hx (Ev.neg hb h1)
theorem impl_isClause_any (p : Int → Option Bool) (l : List Int) (hl : l.length ≤ 1048576) (β : Int → Bool) (hp : ∀ x, x ∈ l → p x = some (β x)) : Ev (fun k => impl_isClause.any k p l) (l.any β) := by
  obtain ⟨r, h1, h2⟩ := impl_isClause_idx p l hl β hp l.length 0 (by omega)
  rw [List.drop_zero] at h2
  exact Ev.bind h1 (Ev.at_ (Ev.now _) h2)
def clF (v : Int) (c : List Int) : Nat → Nat → Bool
  | 0, _ => decide (c.length ≤ 12)
  | d + 1, i => (c.getD i 0 != 0 && In (c.getD i 0) (-v) v) && (!((c.take i).any (fun k => k == c.getD i 0 || k == -(c.getD i 0))) && clF v c d (i + 1))
theorem clF_impl (v : Int) (hv : 0 ≤ v ∧ v ≤ 12) (c : List Int) (hl : c.length ≤ 1048576) : ∀ (d i : Nat), i + d = c.length → (∀ j (h : j < c.length), j < i → -12 ≤ c[j] ∧ c[j] ≤ 12) → Ev (fun k => impl_isClause.l0 k c v (i : Int)) (clF v c d i)
  | 0, i, h, hj => Ev.step (fun k => impl_isClause.l0.eq_2 ..) (Ev.neg (by omega) (Ev.at_ (Ev.now _) (decide_eq_decide.2 (by omega))))
  | d + 1, i, h, hj => by
    have hi : i < c.length := by omega
    have eg : c.getD i 0 = c[i] := by simp [hi]
    have hwv : wrap64 (-v) = -v := wrap_id _ (by omega) (by omega)
    unfold clF
    rw [eg]
    by_cases h0 : c[i] = 0
    · have e : (c[i] != 0) = false := by simp [h0]
      rw [e, Bool.false_and, Bool.false_and]
      refine Ev.step (fun k => impl_isClause.l0.eq_2 ..) (Ev.pos (by omega) (Ev.pos (by omega) ?_))
      · rw [rd_nat c i hi]
        exact Ev.bindE (show impl_isLiteral.f c[i] v = some false by unfold impl_isLiteral.f; rw [if_pos h0]) (Ev.neg (by simp) (Ev.now _))
    · have e : (c[i] != 0) = true := by simp [h0]
      rw [e, Bool.true_and]
      have elit : impl_isLiteral.f c[i] v = some (In c[i] (-v) v) := by unfold impl_isLiteral.f; rw [if_neg h0, hwv]; first | exact impl_in_eq .. | (rw [impl_in_eq]; rfl)
      by_cases h1 : In c[i] (-v) v = true
      · have h1' := In_true.1 h1
        rw [h1, Bool.true_and]
        rw [h1] at elit
        have ih := clF_impl v hv c hl d (i + 1) (by omega) (fun j hjl hji => by
          by_cases e : j = i
          · subst e; omega
          · exact hj j hjl (by omega))
        have hmem : ∀ x, x ∈ c.take i → -12 ≤ x ∧ x ≤ 12 := fun x hx => by
          obtain ⟨j, hjl, e⟩ := List.getElem_of_mem hx
          rw [List.getElem_take] at e
          rw [List.length_take] at hjl
          rw [← e]; exact hj j (by omega) (by omega)
        have ha := impl_isClause_any (impl_isClause.np c[i]) (c.take i) (by rw [List.length_take]; omega) (fun k => k == c[i] || k == -c[i]) (fun x hx => by
          have := hmem x hx
          unfold impl_isClause.np
          rw [var_abs x (by omega) (by omega), Option.bind_some, var_abs c[i] (by omega) (by omega), Option.bind_some]
          congr 1
          rw [Bool.eq_iff_iff]
          simp only [beq_iff_eq, Bool.or_eq_true]
          omega)
        have hwn : wrap64 (-c[i]) = -c[i] := wrap_id _ (by omega) (by omega)
        refine Ev.step (fun k => impl_isClause.l0.eq_2 ..) (Ev.pos (by omega) (Ev.pos (by omega) ?_))
        · rw [rd_nat c i hi, Int.toNat_natCast, w1 i (by omega)]
          refine Ev.bindE elit (Ev.pos rfl (Ev.bind ha ?_))
          by_cases hb : ((c.take i).any (fun k => k == c[i] || k == -c[i])) = true
          · rw [hb]; exact Ev.pos rfl (Ev.now _)
          · rw [Bool.eq_false_iff.mpr hb]; exact Ev.neg (by simp) ih
      · rw [Bool.eq_false_iff.mpr h1, Bool.false_and]
        rw [Bool.eq_false_iff.mpr h1] at elit
        refine Ev.step (fun k => impl_isClause.l0.eq_2 ..) (Ev.pos (by omega) (Ev.pos (by omega) ?_))
        · rw [rd_nat c i hi]; exact Ev.bindE elit (Ev.neg (by simp) (Ev.now _))
def clB (v : Int) (c : List Int) : Bool := clF v c c.length 0
theorem clF_lits (v : Int) (c : List Int) : ∀ (d i : Nat), i + d = c.length → clF v c d i = true → c.length ≤ 12 ∧ ∀ j (h : j < c.length), i ≤ j → c[j] ≠ 0 ∧ -v ≤ c[j] ∧ c[j] ≤ v
  | 0, i, h, hc => ⟨of_decide_eq_true hc, fun j hj hij => by omega⟩
  | d + 1, i, h, hc => by
    unfold clF at hc
    simp only [Bool.and_eq_true, bne_iff_ne, In_true] at hc
    have ih := clF_lits v c d (i + 1) (by omega) hc.2.2
    have eg : c.getD i 0 = c[i]'(by omega) := by simp [show i < c.length by omega]
    rw [eg] at hc
    refine ⟨ih.1, fun j hj hij => ?_⟩
    by_cases e : j = i
    · subst e; exact ⟨hc.1.1, hc.1.2⟩
    · exact ih.2 j hj (by omega)
theorem clB_lits {v : Int} {c : List Int} (h : clB v c = true) : c.length ≤ 12 ∧ ∀ x, x ∈ c → x ≠ 0 ∧ -v ≤ x ∧ x ≤ v := by
  obtain ⟨h1, h2⟩ := clF_lits v c c.length 0 (by omega) h
  exact ⟨h1, fun x hx => by obtain ⟨j, hj, e⟩ := List.getElem_of_mem hx; rw [← e]; exact h2 j hj (by omega)⟩
def GoodC (v : Int) (l : List (List Int)) : Bool := In v 0 12 && (decide (l.length ≤ 60) && l.all (clB v))
theorem are_idx (p : List Int → Option Bool) (l : List (List Int)) (hl : l.length ≤ 1048576) (β : List Int → Bool) (hp : ∀ x, x ∈ l → p x = some (β x)) : ∀ (d i k : Nat), i + d = l.length → d < k → ∃ r, impl_areClauses.idx k p l (i : Int) = some r ∧ decide (r ≥ 0) = (l.drop i).any β
  | 0, i, k, h, hk => by
    obtain ⟨k, rfl⟩ : ∃ m, k = m + 1 := ⟨k - 1, by omega⟩
    exact ⟨-1, by unfold impl_areClauses.idx; rw [if_neg (by omega)], by rw [List.drop_eq_nil_of_le (by omega)]; rfl⟩
  | d + 1, i, k, h, hk => by
    obtain ⟨k, rfl⟩ : ∃ m, k = m + 1 := ⟨k - 1, by omega⟩
    have hi : i < l.length := by omega
    have hx := hp l[i] (List.getElem_mem hi)
    rw [List.drop_eq_getElem_cons hi, List.any_cons]
    unfold impl_areClauses.idx
    rw [if_pos (by omega), if_pos (by omega), rdL_nat l i hi, hx, Option.bind_some, w1 i (by omega)]
    by_cases hb : β l[i] = true
    · rw [if_pos hb]; exact ⟨_, rfl, by rw [hb, Bool.true_or]; exact decide_eq_true (by omega)⟩
    · rw [if_neg hb, Bool.eq_false_iff.mpr hb, Bool.false_or]
      exact are_idx p l hl β hp d (i + 1) k (by omega) (by omega)
theorem evAllL {α : Type} {P : Nat → α → Option Bool} {β : α → Bool} : ∀ l : List α, (∀ x, x ∈ l → Ev (fun k => P k x) (β x)) → ∃ K, ∀ k, K ≤ k → ∀ x, x ∈ l → P k x = some (β x)
  | [], _ => ⟨0, fun _ _ x hx => by simp at hx⟩
  | a :: l, h => by
    obtain ⟨K, hK⟩ := evAllL l (fun x hx => h x (List.mem_cons_of_mem _ hx))
    obtain ⟨K2, hK2⟩ := h a (List.mem_cons_self ..)
    refine ⟨max K K2, fun k hk x hx => ?_⟩
    rcases List.mem_cons.1 hx with rfl | hx
    · exact hK2 k (by omega)
    · exact hK k (by omega) x hx
theorem isClause_ev (v : Int) (hv : 0 ≤ v ∧ v ≤ 12) (c : List Int) (hl : c.length ≤ 1048576) : Ev (fun k => impl_isClause.f k c v) (clB v c) := clF_impl v hv c hl c.length 0 (by omega) (fun j hj h => by omega)
def Rows (l : List (List Int)) : Prop := l.length ≤ 1048576 ∧ ∀ c, c ∈ l → c.length ≤ 1048576
theorem goodCI (v : Int) (l : List (List Int)) (hl : Rows l) : Ev (fun k => impl_GoodClauses.f k v l) (GoodC v l) := by
  unfold impl_GoodClauses.f GoodC
  refine Ev.bindE (impl_in_eq ..) ?_
  by_cases h1 : In v 0 12 = true
  · have h1' := In_true.1 h1
    rw [h1, Bool.true_and]
    refine Ev.pos rfl ?_
    by_cases h2 : l.length ≤ 60
    · rw [decide_eq_true h2, Bool.true_and]
      refine Ev.pos (by omega) (Ev.bind (a := l.all (clB v)) ?_ (Ev.now _))
      obtain ⟨K, hK⟩ := evAllL (P := fun k c => impl_areClauses.np k v c) (β := fun c => !clB v c) l (fun c hc => Ev.bind (isClause_ev v h1' c (hl.2 c hc)) (Ev.now _))
      refine ⟨max K (l.length + 1), fun k hk => ?_⟩
      obtain ⟨r, e1, e2⟩ := are_idx (impl_areClauses.np k v) l hl.1 (fun c => !clB v c) (hK k (by omega)) l.length 0 k (by omega) (by omega)
      rw [List.drop_zero] at e2
      unfold impl_areClauses.f impl_areClauses.any
      rw [show ((0 : Nat) : Int) = 0 from rfl] at e1
      show ((impl_areClauses.idx k (impl_areClauses.np k v) l 0).bind fun t => some (decide (t ≥ 0))).bind (fun t => some !t) = _
      rw [e1, Option.bind_some, Option.bind_some, e2]
      congr 1
      rw [List.not_any_eq_all_not]
      congr 1
      funext c
      simp
    · rw [decide_eq_false h2, Bool.false_and]; exact Ev.neg (by omega) (Ev.now _)
  · rw [Bool.eq_false_iff.mpr h1, Bool.false_and]; exact Ev.neg (by simp) (Ev.now _)
def litB (m : List Bool) (x : Int) : Bool := m.getD (x.natAbs - 1) false == decide (x > 0)
def holdsB (m : List Bool) (l : List (List Int)) : Bool := l.all (fun c => c.any (litB m))
def LitsIn (v : Nat) (l : List (List Int)) : Prop := l.length ≤ 60 ∧ ∀ c, c ∈ l → c.length ≤ 12 ∧ ∀ x, x ∈ c → x ≠ 0 ∧ -(v : Int) ≤ x ∧ x ≤ (v : Int)
theorem GoodC_lits {v : Nat} {l : List (List Int)} (h : GoodC (v : Int) l = true) : v ≤ 12 ∧ LitsIn v l := by
  unfold GoodC at h
  simp only [Bool.and_eq_true, In_true, decide_eq_true_eq, List.all_eq_true] at h
  exact ⟨by omega, h.2.1, fun c hc => clB_lits (h.2.2 c hc)⟩
theorem bitM_nat (n j : Nat) (hn : n < 4611686018427387904) (hj : j ≤ 60) : bitM (n : Int) j = n.testBit j := by
  have hb : IntKind.i64.bits = 64 := rfl
  have e : shr .i64 (n : Int) (j : Int) = ((n / 2 ^ j : Nat) : Int) := by
    unfold shr
    rw [Int.toNat_natCast, hb, Nat.min_eq_left (by omega)]
    first | (rw [show ((2 : Int) ^ j) = ((2 ^ j : Nat) : Int) by rw [Int.natCast_pow]; rfl]; rfl) | (simp [Int.shiftRight_eq_div_pow]) | (norm_cast)
  unfold bitM
  rw [e]
  have h1 : n / 2 ^ j ≤ n := Nat.div_le_self _ _
  have := bits_and (n / 2 ^ j) 1 (by omega) (by omega)
  rw [show ((1 : Nat) : Int) = 1 from rfl] at this
  rw [this, Nat.and_one_is_mod, Nat.testBit_eq_decide_div_mod_eq, Bool.eq_iff_iff, beq_iff_eq, decide_eq_true_eq]
  omega
theorem idxI_loop (l : List Int) (x : Int) (hl : l.length ≤ 1048576) : ∀ (d i : Nat), i + d = l.length → ∃ r, Ev (fun k => slices_Index_int_int.l0 k l x (l.length : Int) (i : Int)) r ∧ decide (r ≥ 0) = decide (x ∈ l.drop i)
  | 0, i, h => ⟨-1, Ev.step (fun k => slices_Index_int_int.l0.eq_2 ..) (Ev.neg (by omega) (Ev.now _)), by rw [List.drop_eq_nil_of_le (by omega)]; rfl⟩
  | d + 1, i, h => by
    have hi : i < l.length := by omega
    rw [List.drop_eq_getElem_cons hi]
    by_cases e : x = l[i]
    · refine ⟨(i : Int), Ev.step (fun k => slices_Index_int_int.l0.eq_2 ..) (Ev.pos (by omega) (Ev.pos (by omega) (Ev.pos (by omega) ?_))), ?_⟩
      · rw [rd_nat l i hi]; exact Ev.pos e (Ev.now _)
      · rw [decide_eq_true (show ((i : Int) ≥ 0) by omega)]
        exact (decide_eq_true (by rw [e]; exact List.mem_cons_self ..)).symm
    · obtain ⟨r, h1, h2⟩ := idxI_loop l x hl d (i + 1) (by omega)
      refine ⟨r, Ev.step (fun k => slices_Index_int_int.l0.eq_2 ..) (Ev.pos (by omega) (Ev.pos (by omega) (Ev.pos (by omega) ?_))), ?_⟩
      · rw [rd_nat l i hi, w1 i (by omega)]; exact Ev.neg e h1
      · rw [h2]; exact decide_eq_decide.2 (by simp only [List.mem_cons, e, false_or])
theorem contI_ev (l : List Int) (x : Int) (hl : l.length ≤ 1048576) : Ev (fun k => slices_Contains_int_int.f k l x) (decide (x ∈ l)) := by
  obtain ⟨r, h1, h2⟩ := idxI_loop l x hl l.length 0 (by omega)
  rw [List.drop_zero] at h2
  unfold slices_Contains_int_int.f
  exact Ev.bind h1 (Ev.at_ (Ev.now _) h2)
def cln : List Int → List Int → Option (List Int)
  | acc, [] => some acc
  | acc, x :: xs => if -x ∈ acc then none else if x ∈ acc then cln acc xs else cln (acc ++ [x]) xs
def clnQ : Option (List Int) → List Int × Bool
  | some r => (r, true)
  | none => ([], false)
theorem cleanI_loop (c : List Int) (hl : c.length ≤ 1048576) (hx : ∀ x, x ∈ c → -1000 ≤ x ∧ x ≤ 1000) : ∀ (d i : Nat) (acc : List Int), i + d = c.length → acc.length ≤ i → Ev (fun k => impl_clean.l0 k acc c (c.length : Int) (i : Int)) (clnQ (cln acc (c.drop i)))
  | 0, i, acc, h, ha => by
    rw [List.drop_eq_nil_of_le (by omega)]
    exact Ev.step (fun k => impl_clean.l0.eq_2 ..) (Ev.neg (by omega) (Ev.now _))
  | d + 1, i, acc, h, ha => by
    have hi : i < c.length := by omega
    have hb := hx c[i] (List.getElem_mem hi)
    have ew : wrap64 (-c[i]) = -c[i] := wrap_id _ (by omega) (by omega)
    rw [List.drop_eq_getElem_cons hi]
    refine Ev.step (fun k => impl_clean.l0.eq_2 ..) (Ev.pos (by omega) (Ev.pos (by omega) (Ev.pos (by omega) ?_)))
    rw [rd_nat c i hi, w1 i (by omega), ew]
    refine Ev.bind (contI_ev acc (-c[i]) (by omega)) ?_
    unfold cln
    by_cases h1 : -c[i] ∈ acc
    · rw [if_pos h1]; exact Ev.pos (decide_eq_true h1) (Ev.now _)
    · rw [if_neg h1]
      refine Ev.neg (by simp [h1]) (Ev.bind (contI_ev acc c[i] (by omega)) ?_)
      by_cases h2 : c[i] ∈ acc
      · rw [if_pos h2]; exact Ev.pos (decide_eq_true h2) (cleanI_loop c hl hx d (i + 1) acc (by omega) (by omega))
      · rw [if_neg h2]
        exact Ev.neg (by simp [h2]) (Ev.pos (by omega) (cleanI_loop c hl hx d (i + 1) (acc ++ [c[i]]) (by omega) (by simp; omega)))
theorem cleanI_ev (c : List Int) (hl : c.length ≤ 1048576) (hx : ∀ x, x ∈ c → -1000 ≤ x ∧ x ≤ 1000) : Ev (fun k => impl_clean.f k c) (clnQ (cln [] c)) := by
  have := cleanI_loop c hl hx c.length 0 [] (by omega) (by simp)
  rw [List.drop_zero] at this
  exact this
theorem cleanS_loop (c : List Int) (hl : c.length ≤ 40) (hx : ∀ x, x ∈ c → x ≠ 0 ∧ -12 ≤ x ∧ x ≤ 12) : ∀ (d i : Nat) (acc : List Int), i + d = c.length → acc.length ≤ i → Ev (fun k => spec_CleanClause.l0 k acc c (c.length : Int) (i : Int)) (clnQ (cln acc (c.drop i)))
  | 0, i, acc, h, ha => by
    rw [List.drop_eq_nil_of_le (by omega)]
    exact Ev.step (fun k => spec_CleanClause.l0.eq_2 ..) (Ev.neg (by omega) (Ev.now _))
  | d + 1, i, acc, h, ha => by
    have hi : i < c.length := by omega
    have hb := hx c[i] (List.getElem_mem hi)
    have ew : wrap64 (-c[i]) = -c[i] := wrap_id _ (by omega) (by omega)
    rw [List.drop_eq_getElem_cons hi]
    refine Ev.step (fun k => spec_CleanClause.l0.eq_2 ..) (Ev.pos (by omega) (Ev.pos (by omega) (Ev.pos (by omega) ?_)))
    rw [rd_nat c i hi, ew]
    refine Ev.neg hb.1 (Ev.bindE (spec_l1In_eq ..) (Ev.pos (In_true.2 hb.2) (Ev.bind (l1Has_ev acc (-c[i]) (by omega)) ?_)))
    refine Ev.step (fun k => spec_CleanClause.j1.eq_2 ..) ?_
    rw [w1 i (by omega)]
    unfold cln
    by_cases h1 : -c[i] ∈ acc
    · rw [if_pos h1]; exact Ev.pos (decide_eq_true h1) (Ev.now _)
    · rw [if_neg h1]
      refine Ev.neg (by simp [h1]) (Ev.bind (l1Has_ev acc c[i] (by omega)) ?_)
      by_cases h2 : c[i] ∈ acc
      · rw [if_pos h2]; exact Ev.pos (decide_eq_true h2) (cleanS_loop c hl hx d (i + 1) acc (by omega) (by omega))
      · rw [if_neg h2]
        exact Ev.neg (by simp [h2]) (Ev.pos (by omega) (cleanS_loop c hl hx d (i + 1) (acc ++ [c[i]]) (by omega) (by simp; omega)))
theorem cleanS_ev (c : List Int) (hl : c.length ≤ 40) (hx : ∀ x, x ∈ c → x ≠ 0 ∧ -12 ≤ x ∧ x ≤ 12) : Ev (fun k => spec_CleanClause.f k c) (clnQ (cln [] c)) := by
  unfold spec_CleanClause.f
  have := cleanS_loop c hl hx c.length 0 [] (by omega) (by simp)
  rw [List.drop_zero] at this
  exact Ev.neg (by omega) this
theorem litB_neg (m : List Bool) (x : Int) (h : x ≠ 0) : litB m (-x) = !(litB m x) := by
  unfold litB
  rw [Int.natAbs_neg]
  by_cases h1 : x > 0
  · rw [decide_eq_true h1, decide_eq_false (show ¬ -x > 0 by omega)]; cases m.getD (x.natAbs - 1) false <;> rfl
  · rw [decide_eq_false h1, decide_eq_true (show -x > 0 by omega)]; cases m.getD (x.natAbs - 1) false <;> rfl
theorem litB_pos (m : List Bool) (x : Int) (h : 0 < x) : litB m x = m.getD (x.toNat - 1) false := by
  unfold litB
  rw [decide_eq_true (show x > 0 by omega), show x.natAbs = x.toNat by omega]; cases m.getD (x.toNat - 1) false <;> rfl
theorem any_mem {m : List Bool} {x : Int} {l : List Int} (h : x ∈ l) (hb : litB m x = true) : l.any (litB m) = true := List.any_eq_true.2 ⟨x, h, hb⟩
theorem cln_sem (m : List Bool) : ∀ (xs acc : List Int), (∀ x, x ∈ xs → x ≠ 0) → (match cln acc xs with | some r => r.any (litB m) | none => true) = (acc.any (litB m) || xs.any (litB m))
  | [], acc, _ => by simp [cln]
  | x :: xs, acc, h => by
    have hx := h x (List.mem_cons_self ..)
    have ht : ∀ y, y ∈ xs → y ≠ 0 := fun y hy => h y (List.mem_cons_of_mem _ hy)
    rw [List.any_cons]
    unfold cln
    by_cases h1 : -x ∈ acc
    · rw [if_pos h1]
      cases hb : litB m x
      · have := any_mem h1 (by rw [litB_neg m x hx, hb]; rfl)
        rw [this]; rfl
      · simp
    · rw [if_neg h1]
      by_cases h2 : x ∈ acc
      · rw [if_pos h2, cln_sem m xs acc ht]
        cases hb : litB m x
        · simp
        · rw [any_mem h2 hb]; rfl
      · rw [if_neg h2, cln_sem m xs (acc ++ [x]) ht, List.any_append, List.any_cons, List.any_nil, Bool.or_false, Bool.or_assoc]
def Dis (c : List Int) : Prop := ∀ j (h : j < c.length), c[j] ∉ c.take j ∧ -c[j] ∉ c.take j
theorem Dis.snoc {c : List Int} {x : Int} (h : Dis c) (h1 : x ∉ c) (h2 : -x ∉ c) : Dis (c ++ [x]) := by
  intro j hj
  rw [List.length_append, List.length_singleton] at hj
  by_cases e : j < c.length
  · rw [List.getElem_append_left e, List.take_append_of_le_length (by omega)]; exact h j e
  · have e' : j = c.length := by omega
    subst e'
    rw [List.getElem_concat_length (by rfl) (by simp), List.take_append_of_le_length (by omega), List.take_length]
    exact ⟨h1, h2⟩
theorem cln_shape (P : Int → Prop) : ∀ (xs acc r : List Int), cln acc xs = some r → Dis acc → (∀ x, x ∈ acc → P x) → (∀ x, x ∈ xs → P x) → Dis r ∧ (∀ x, x ∈ r → P x) ∧ r.length ≤ acc.length + xs.length
  | [], acc, r, h, hd, ha, _ => by
    obtain rfl := Option.some.inj h
    exact ⟨hd, ha, by simp⟩
  | x :: xs, acc, r, h, hd, ha, hx => by
    have ht : ∀ y, y ∈ xs → P y := fun y hy => hx y (List.mem_cons_of_mem _ hy)
    unfold cln at h
    by_cases h1 : -x ∈ acc
    · rw [if_pos h1] at h; cases h
    · rw [if_neg h1] at h
      by_cases h2 : x ∈ acc
      · rw [if_pos h2] at h
        have := cln_shape P xs acc r h hd ha ht
        exact ⟨this.1, this.2.1, by have := this.2.2; simp only [List.length_cons]; omega⟩
      · rw [if_neg h2] at h
        have := cln_shape P xs (acc ++ [x]) r h (hd.snoc h2 h1) (fun y hy => by
          rcases List.mem_append.1 hy with hy | hy
          · exact ha y hy
          · rw [List.mem_singleton.1 hy]; exact hx x (List.mem_cons_self ..)) ht
        refine ⟨this.1, this.2.1, ?_⟩
        have h3 := this.2.2
        rw [List.length_append, List.length_singleton] at h3
        rw [List.length_cons]; omega
theorem clF_intro (v : Int) (c : List Int) (hl : c.length ≤ 12) (hx : ∀ x, x ∈ c → x ≠ 0 ∧ -v ≤ x ∧ x ≤ v) (hd : Dis c) : ∀ (d i : Nat), i + d = c.length → clF v c d i = true
  | 0, i, h => decide_eq_true hl
  | d + 1, i, h => by
    have hi : i < c.length := by omega
    have eg : c.getD i 0 = c[i] := by simp [hi]
    have hb := hx c[i] (List.getElem_mem hi)
    have hn := hd i hi
    unfold clF
    rw [eg, clF_intro v c hl hx hd d (i + 1) (by omega), In_true.2 hb.2]
    have e1 : (c[i] != 0) = true := by simp [hb.1]
    have e2 : (c.take i).any (fun k => k == c[i] || k == -c[i]) = false := by
      rw [List.any_eq_false]
      intro x hxm hq
      simp only [Bool.or_eq_true, beq_iff_eq] at hq
      rcases hq with rfl | rfl
      · exact hn.1 hxm
      · exact hn.2 hxm
    rw [e1, e2]; rfl
def rawC (g : S69) (n : Int) : List (List Int) :=
  if g.f0 = 2 then [[n, g.f1 + 1], [-n, -(g.f1 + 1)]]
  else if g.f0 = 3 then [[-n, g.f1 + 1], [-n, g.f2 + 1], [n, -(g.f1 + 1), -(g.f2 + 1)]]
  else if g.f0 = 4 then [[n, -(g.f1 + 1)], [n, -(g.f2 + 1)], [-n, g.f1 + 1, g.f2 + 1]]
  else if g.f0 = 5 then [[-n, g.f1 + 1, g.f2 + 1], [-n, -(g.f1 + 1), -(g.f2 + 1)], [n, -(g.f1 + 1), g.f2 + 1], [n, g.f1 + 1, -(g.f2 + 1)]]
  else []
def gC (g : S69) (n : Int) : List (List Int) := (rawC g n).filterMap (cln [])
theorem gok_rng {g : S69} {j : Nat} (h : gok g j) : 0 ≤ g.f1 ∧ 0 ≤ g.f2 ∧ g.f1 ≤ j ∧ g.f2 ≤ j := by
  rcases h with ⟨_, h1, h2⟩ | ⟨_, h1, h2⟩ | ⟨_, h1, h2⟩ <;> omega
theorem gok_kind {g : S69} {j : Nat} (h : gok g j) : g.f0 = 1 ∨ g.f0 = 2 ∨ g.f0 = 3 ∨ g.f0 = 4 ∨ g.f0 = 5 := by
  rcases h with ⟨h, _⟩ | ⟨h, _⟩ | ⟨h, _⟩ <;> omega
theorem gok_lt {g : S69} {j : Nat} (h : gok g j) (h1 : g.f0 ≠ 1) : g.f1.toNat < j := by
  rcases h with ⟨h, _⟩ | ⟨h, _⟩ | ⟨h, _⟩ <;> omega
theorem gok_lt2 {g : S69} {j : Nat} (h : gok g j) (h1 : g.f0 ≠ 1) (h2 : g.f0 ≠ 2) : g.f2.toNat < j := by
  rcases h with ⟨h, _⟩ | ⟨h, _⟩ | ⟨h, _⟩ <;> omega
theorem rawC_len (g : S69) (n : Int) : (rawC g n).length ≤ 4 := by
  unfold rawC; (repeat' split) <;> simp
theorem rawC_lits {g : S69} {i v : Nat} (h : gok g i) (hi : i < v) : ∀ c, c ∈ rawC g ((i + 1 : Nat) : Int) → c.length ≤ 3 ∧ ∀ x, x ∈ c → x ≠ 0 ∧ -(v : Int) ≤ x ∧ x ≤ (v : Int) := by
  intro c hc
  have hr := gok_rng h
  have key : ∀ x : Int, (x = ((i + 1 : Nat) : Int) ∨ x = -((i + 1 : Nat) : Int) ∨ x = g.f1 + 1 ∨ x = -(g.f1 + 1) ∨ x = g.f2 + 1 ∨ x = -(g.f2 + 1)) → g.f1 < v ∧ g.f2 < v → x ≠ 0 ∧ -(v : Int) ≤ x ∧ x ≤ (v : Int) := by
    intro x hx hv; omega
  have hv : g.f1 < v ∧ g.f2 < v := by omega
  unfold rawC at hc
  (repeat' split at hc) <;> simp only [List.mem_cons, List.not_mem_nil, or_false] at hc <;> (try contradiction) <;>
    (rcases hc with rfl | rfl | rfl | rfl <;> (refine ⟨by simp, fun x hx => key x ?_ hv⟩; simp only [List.mem_cons, List.not_mem_nil, or_false] at hx; omega))
theorem cln_len : ∀ (xs acc r : List Int), cln acc xs = some r → r.length ≤ acc.length + xs.length
  | [], acc, r, h => by
    obtain rfl := Option.some.inj h
    simp
  | x :: xs, acc, r, h => by
    unfold cln at h
    by_cases h1 : -x ∈ acc
    · rw [if_pos h1] at h; cases h
    · rw [if_neg h1] at h
      by_cases h2 : x ∈ acc
      · rw [if_pos h2] at h
        have := cln_len xs acc r h
        rw [List.length_cons]; omega
      · rw [if_neg h2] at h
        have := cln_len xs (acc ++ [x]) r h
        rw [List.length_append, List.length_singleton] at this
        rw [List.length_cons]; omega
theorem gC_rows {g : S69} {i : Nat} (h : gok g i) : ∀ c, c ∈ gC g ((i + 1 : Nat) : Int) → c.length ≤ 3 := by
  intro c hc
  obtain ⟨r, hr, e⟩ := List.mem_filterMap.1 hc
  have h1 := (rawC_lits h (Nat.lt_succ_self i) r hr).1
  have h2 := cln_len r [] c e
  simp only [List.length_nil] at h2
  omega
theorem gC_len (g : S69) (n : Int) : (gC g n).length ≤ 4 := Nat.le_trans (List.length_filterMap_le ..) (rawC_len g n)
theorem gC_good {g : S69} {i v : Nat} (h : gok g i) (hi : i < v) : ∀ c, c ∈ gC g ((i + 1 : Nat) : Int) → clB (v : Int) c = true := by
  intro c hc
  obtain ⟨r, hr, e⟩ := List.mem_filterMap.1 hc
  have hl := rawC_lits h hi r hr
  have hs := cln_shape (fun x => x ≠ 0 ∧ -(v : Int) ≤ x ∧ x ≤ (v : Int)) r [] c e (fun j hj => by simp at hj) (fun x hx => by simp at hx) hl.2
  have h3 := hs.2.2
  simp only [List.length_nil] at h3
  exact clF_intro (v : Int) c (by omega) hs.2.1 hs.1 c.length 0 (by omega)
def cFrom : Nat → List S69 → List (List Int)
  | _, [] => []
  | i, g :: gs => gC g ((i + 1 : Nat) : Int) ++ cFrom (i + 1) gs
def clausesM (l : List S69) : List (List Int) := cFrom 0 l ++ [[(l.length : Int)]]
theorem cFrom_len : ∀ (l : List S69) (i : Nat), (cFrom i l).length ≤ 4 * l.length
  | [], i => by simp [cFrom]
  | g :: gs, i => by
    have := cFrom_len gs (i + 1)
    have := gC_len g ((i + 1 : Nat) : Int)
    unfold cFrom; rw [List.length_append, List.length_cons]; omega
theorem cFrom_good (v : Nat) : ∀ (l : List S69) (i : Nat), i + l.length ≤ v → (∀ j (h : j < l.length), gok l[j] (i + j)) → ∀ c, c ∈ cFrom i l → clB (v : Int) c = true
  | [], i, _, _, c, hc => by simp [cFrom] at hc
  | g :: gs, i, hi, hok, c, hc => by
    rw [List.length_cons] at hi
    unfold cFrom at hc
    rcases List.mem_append.1 hc with hc | hc
    · exact gC_good (hok 0 (by simp)) (by omega) c hc
    · refine cFrom_good v gs (i + 1) (by omega) (fun j hj => ?_) c hc
      have := hok (j + 1) (by simp; omega)
      rw [List.getElem_cons_succ] at this
      rw [show i + 1 + j = i + (j + 1) by omega]; exact this
theorem clausesM_good (l : List S69) (hl : 1 ≤ l.length ∧ l.length ≤ 12) (hok : ∀ j (h : j < l.length), gok l[j] j) : GoodC (l.length : Int) (clausesM l) = true := by
  unfold GoodC
  have h1 := cFrom_len l 0
  have h2 : ∀ c, c ∈ clausesM l → clB (l.length : Int) c = true := by
    intro c hc
    rcases List.mem_append.1 hc with hc | hc
    · exact cFrom_good l.length l 0 (by omega) (fun j hj => by rw [Nat.zero_add]; exact hok j hj) c hc
    · rw [List.mem_singleton.1 hc]
      refine clF_intro _ _ (by simp) (fun x hx => ?_) (fun j hj => ?_) 1 0 rfl
      · rw [List.mem_singleton.1 hx]; omega
      · simp only [List.length_singleton] at hj
        obtain rfl : j = 0 := by omega
        simp
  have h3 : (clausesM l).length ≤ 60 := by unfold clausesM; rw [List.length_append, List.length_singleton]; omega
  simp only [Bool.and_eq_true, In_true, decide_eq_true_eq, List.all_eq_true]
  exact ⟨by omega, h3, h2⟩
theorem clausesM_rows (l : List S69) (hl : 1 ≤ l.length ∧ l.length ≤ 12) (hok : ∀ j (h : j < l.length), gok l[j] j) : Rows (clausesM l) := by
  have hg := clausesM_good l hl hok
  obtain ⟨_, h⟩ := GoodC_lits hg
  exact ⟨by have := h.1; omega, fun c hc => by have := (h.2 c hc).1; omega⟩
theorem gcI_loop (rs : List (List Int)) (hl : rs.length ≤ 1000) (hx : ∀ c, c ∈ rs → c.length ≤ 3 ∧ ∀ x, x ∈ c → x ≠ 0 ∧ -12 ≤ x ∧ x ≤ 12) : ∀ (d i : Nat) (acc : List (List Int)), i + d = rs.length → acc.length ≤ i → Ev (fun k => impl_gateClauses.l0 k acc rs (rs.length : Int) (i : Int)) (acc ++ (rs.drop i).filterMap (cln []))
  | 0, i, acc, h, ha => by
    rw [List.drop_eq_nil_of_le (by omega), List.filterMap_nil, List.append_nil]
    exact Ev.step (fun k => impl_gateClauses.l0.eq_2 ..) (Ev.neg (by omega) (Ev.now _))
  | d + 1, i, acc, h, ha => by
    have hi : i < rs.length := by omega
    have hb := hx rs[i] (List.getElem_mem hi)
    rw [List.drop_eq_getElem_cons hi]
    refine Ev.step (fun k => impl_gateClauses.l0.eq_2 ..) (Ev.pos (by omega) (Ev.pos (by omega) (Ev.pos (by omega) ?_)))
    rw [rdL_nat rs i hi, w1 i (by omega)]
    refine Ev.bind (cleanI_ev rs[i] (by omega) (fun x hxm => by have := hb.2 x hxm; omega)) ?_
    cases e : cln [] rs[i] with
    | none =>
      rw [List.filterMap_cons_none e]
      exact Ev.neg (by simp [clnQ]) (gcI_loop rs hl hx d (i + 1) acc (by omega) (by omega))
    | some r =>
      rw [List.filterMap_cons_some e]
      refine Ev.pos rfl (Ev.pos (by omega) ?_)
      have := gcI_loop rs hl hx d (i + 1) (acc ++ [r]) (by omega) (by simp; omega)
      rw [List.append_assoc] at this; exact this
theorem gcI_ev (l : List S69) (i : Nat) (hi : i < l.length) (hl : l.length ≤ 12) (h : gok l[i] i) : Ev (fun k => impl_gateClauses.f k l (i : Int)) (gC l[i] ((i + 1 : Nat) : Int)) := by
  have hr := gok_rng h
  have hk := gok_kind h
  have e0 : wrap64 ((i : Int) + 1) = ((i + 1 : Nat) : Int) := w1 i (by omega)
  have e1 : wrap64 (l[i].f1 + 1) = l[i].f1 + 1 := wrap_id _ (by omega) (by omega)
  have e2 : wrap64 (l[i].f2 + 1) = l[i].f2 + 1 := wrap_id _ (by omega) (by omega)
  have e3 : wrap64 (-(((i + 1 : Nat) : Int))) = -(((i + 1 : Nat) : Int)) := wrap_id _ (by omega) (by omega)
  have e4 : wrap64 (-(l[i].f1 + 1)) = -(l[i].f1 + 1) := wrap_id _ (by omega) (by omega)
  have e5 : wrap64 (-(l[i].f2 + 1)) = -(l[i].f2 + 1) := wrap_id _ (by omega) (by omega)
  have hlit := rawC_lits h hi
  have fin : ∀ rs, rs = rawC l[i] ((i + 1 : Nat) : Int) → Ev (fun k => impl_gateClauses.j0 k rs) (gC l[i] ((i + 1 : Nat) : Int)) := by
    intro rs hrs
    subst hrs
    have h4 := rawC_len l[i] ((i + 1 : Nat) : Int)
    have := gcI_loop _ (by omega) (fun c hc => ⟨(hlit c hc).1, fun x hxm => by have := (hlit c hc).2 x hxm; omega⟩) (rawC l[i] ((i + 1 : Nat) : Int)).length 0 [] (by omega) (by simp)
    rw [List.drop_zero, List.nil_append] at this
    exact Ev.step (fun k => impl_gateClauses.j0.eq_2 ..) this
  unfold impl_gateClauses.f
  refine Ev.pos (by omega) (Ev.pos (by omega) ?_)
  rw [Gateb_nat l i hi, e0, e1, e2, e3, e4, e5]
  by_cases h2 : l[i].f0 = 2
  · exact Ev.pos h2 (fin _ (by unfold rawC; rw [if_pos h2]))
  · refine Ev.neg h2 ?_
    by_cases h3 : l[i].f0 = 3
    · exact Ev.pos h3 (fin _ (by unfold rawC; rw [if_neg h2, if_pos h3]))
    · refine Ev.neg h3 ?_
      by_cases h4 : l[i].f0 = 4
      · exact Ev.pos h4 (fin _ (by unfold rawC; rw [if_neg h2, if_neg h3, if_pos h4]))
      · refine Ev.neg h4 ?_
        by_cases h5 : l[i].f0 = 5
        · exact Ev.pos h5 (fin _ (by unfold rawC; rw [if_neg h2, if_neg h3, if_neg h4, if_pos h5]))
        · exact Ev.neg h5 (fin _ (by unfold rawC; rw [if_neg h2, if_neg h3, if_neg h4, if_neg h5]))
theorem gcS_loop (rs : List (List Int)) (hl : rs.length ≤ 1000) (hx : ∀ c, c ∈ rs → c.length ≤ 3 ∧ ∀ x, x ∈ c → x ≠ 0 ∧ -12 ≤ x ∧ x ≤ 12) : ∀ (d i : Nat) (acc : List (List Int)), i + d = rs.length → acc.length ≤ i → Ev (fun k => spec_l8Clauses.l0 k acc rs (rs.length : Int) (i : Int)) (acc ++ (rs.drop i).filterMap (cln []))
  | 0, i, acc, h, ha => by
    rw [List.drop_eq_nil_of_le (by omega), List.filterMap_nil, List.append_nil]
    exact Ev.step (fun k => spec_l8Clauses.l0.eq_2 ..) (Ev.neg (by omega) (Ev.now _))
  | d + 1, i, acc, h, ha => by
    have hi : i < rs.length := by omega
    have hb := hx rs[i] (List.getElem_mem hi)
    rw [List.drop_eq_getElem_cons hi]
    refine Ev.step (fun k => spec_l8Clauses.l0.eq_2 ..) (Ev.pos (by omega) (Ev.pos (by omega) (Ev.pos (by omega) ?_)))
    rw [rdL_nat rs i hi, w1 i (by omega)]
    refine Ev.bind (cleanS_ev rs[i] (by omega) (fun x hxm => hb.2 x hxm)) ?_
    cases e : cln [] rs[i] with
    | none =>
      rw [List.filterMap_cons_none e]
      exact Ev.neg (by simp [clnQ]) (gcS_loop rs hl hx d (i + 1) acc (by omega) (by omega))
    | some r =>
      rw [List.filterMap_cons_some e]
      refine Ev.pos rfl (Ev.pos (by omega) ?_)
      have := gcS_loop rs hl hx d (i + 1) (acc ++ [r]) (by omega) (by simp; omega)
      rw [List.append_assoc] at this; exact this
theorem rawS_ev (g : S69) (i : Nat) (hi : i < 12) (h : gok g i) : spec_l8Raw.f g.f0 g.f1 g.f2 ((i + 1 : Nat) : Int) = some (rawC g ((i + 1 : Nat) : Int)) := by
  have hr := gok_rng h
  have e1 : wrap64 (g.f1 + 1) = g.f1 + 1 := wrap_id _ (by omega) (by omega)
  have e2 : wrap64 (g.f2 + 1) = g.f2 + 1 := wrap_id _ (by omega) (by omega)
  have e3 : wrap64 (-(((i + 1 : Nat) : Int))) = -(((i + 1 : Nat) : Int)) := wrap_id _ (by omega) (by omega)
  have e4 : wrap64 (-(g.f1 + 1)) = -(g.f1 + 1) := wrap_id _ (by omega) (by omega)
  have e5 : wrap64 (-(g.f2 + 1)) = -(g.f2 + 1) := wrap_id _ (by omega) (by omega)
  unfold spec_l8Raw.f rawC
  rw [e1, e2, e3, e4, e5]
  (repeat' split) <;> rfl
theorem gcS_ev (g : S69) (i : Nat) (hi : i < 12) (h : gok g i) : Ev (fun k => spec_l8Clauses.f k g.f0 g.f1 g.f2 (i : Int)) (gC g ((i + 1 : Nat) : Int)) := by
  have hlit := rawC_lits h hi
  have h4 := rawC_len g ((i + 1 : Nat) : Int)
  unfold spec_l8Clauses.f
  rw [w1 i (by omega)]
  refine Ev.bindE (rawS_ev g i hi h) ?_
  have := gcS_loop _ (by omega) (fun c hc => ⟨(hlit c hc).1, fun x hxm => by have := (hlit c hc).2 x hxm; omega⟩) (rawC g ((i + 1 : Nat) : Int)).length 0 [] (by omega) (by simp)
  rw [List.drop_zero, List.nil_append] at this
  exact this
theorem coI_loop (l : List S69) (hl : l.length ≤ 12) (hok : ∀ j (h : j < l.length), gok l[j] j) : ∀ (d i : Nat) (acc : List (List Int)), i + d = l.length → acc.length ≤ 4 * i → Ev (fun k => impl_ClausesOf.l0 k l acc (l.length : Int) (i : Int)) (acc ++ cFrom i (l.drop i) ++ [[(l.length : Int)]], true)
  | 0, i, acc, h, ha => by
    rw [List.drop_eq_nil_of_le (by omega)]
    unfold cFrom
    rw [List.append_nil]
    exact Ev.step (fun k => impl_ClausesOf.l0.eq_2 ..) (Ev.neg (by omega) (Ev.pos (by omega) (Ev.now _)))
  | d + 1, i, acc, h, ha => by
    have hi : i < l.length := by omega
    have h4 := gC_len l[i] ((i + 1 : Nat) : Int)
    rw [List.drop_eq_getElem_cons hi]
    unfold cFrom
    refine Ev.step (fun k => impl_ClausesOf.l0.eq_2 ..) (Ev.pos (by omega) (Ev.bind (gcI_ev l i hi hl (hok i hi)) (Ev.pos (by omega) ?_)))
    rw [w1 i (by omega), ← List.append_assoc acc]
    exact coI_loop l hl hok d (i + 1) (acc ++ gC l[i] ((i + 1 : Nat) : Int)) (by omega) (by rw [List.length_append]; omega)
def agree (g : S69) (m : List Bool) (i : Nat) : Bool := if g.f0 = 1 then true else m.getD i false == gval g [] m
def consF : Nat → List S69 → List Bool → Bool
  | _, [], _ => true
  | i, g :: gs, m => agree g m i && consF (i + 1) gs m
theorem holds_clean (m : List Bool) : ∀ rs : List (List Int), (∀ c, c ∈ rs → ∀ x, x ∈ c → x ≠ 0) → holdsB m (rs.filterMap (cln [])) = holdsB m rs
  | [], _ => rfl
  | c :: rs, h => by
    have hc := cln_sem m c [] (h c (List.mem_cons_self ..))
    rw [List.any_nil, Bool.false_or] at hc
    have ih := holds_clean m rs (fun c hc => h c (List.mem_cons_of_mem _ hc))
    unfold holdsB at ih ⊢
    rw [List.all_cons]
    cases e : cln [] c with
    | none =>
      rw [List.filterMap_cons_none e, ih]
      rw [e] at hc
      simp only at hc
      rw [← hc, Bool.true_and]
    | some r =>
      rw [List.filterMap_cons_some e, List.all_cons, ih]
      rw [e] at hc
      simp only at hc
      rw [hc]
theorem gC_sem {g : S69} {i : Nat} (h : gok g i) (m : List Bool) : holdsB m (gC g ((i + 1 : Nat) : Int)) = agree g m i := by
  have hr := gok_rng h
  have hk := gok_kind h
  have hlit := rawC_lits h (Nat.lt_succ_self i)
  unfold gC
  rw [holds_clean m _ (fun c hc x hx => ((hlit c hc).2 x hx).1)]
  have a0 : litB m ((i + 1 : Nat) : Int) = m.getD i false := by rw [litB_pos m _ (by omega)]; rfl
  have a1 : litB m (g.f1 + 1) = m.getD g.f1.toNat false := by rw [litB_pos m _ (by omega), show (g.f1 + 1).toNat - 1 = g.f1.toNat by omega]
  have a2 : litB m (g.f2 + 1) = m.getD g.f2.toNat false := by rw [litB_pos m _ (by omega), show (g.f2 + 1).toNat - 1 = g.f2.toNat by omega]
  have b0 : litB m (-((i + 1 : Nat) : Int)) = !(m.getD i false) := by rw [litB_neg m _ (by omega), a0]
  have b1 : litB m (-(g.f1 + 1)) = !(m.getD g.f1.toNat false) := by rw [litB_neg m _ (by omega), a1]
  have b2 : litB m (-(g.f2 + 1)) = !(m.getD g.f2.toNat false) := by rw [litB_neg m _ (by omega), a2]
  unfold holdsB rawC agree gval
  rcases hk with hk | hk | hk | hk | hk <;> rw [hk] <;>
    simp only [show ¬ ((1 : Int) = 2) by decide, show ¬ ((1 : Int) = 3) by decide, show ¬ ((1 : Int) = 4) by decide, show ¬ ((1 : Int) = 5) by decide, show ¬ ((2 : Int) = 1) by decide, show ¬ ((3 : Int) = 1) by decide, show ¬ ((3 : Int) = 2) by decide, show ¬ ((4 : Int) = 1) by decide, show ¬ ((4 : Int) = 2) by decide, show ¬ ((4 : Int) = 3) by decide, show ¬ ((5 : Int) = 1) by decide, show ¬ ((5 : Int) = 2) by decide, show ¬ ((5 : Int) = 3) by decide, show ¬ ((5 : Int) = 4) by decide, if_true, if_false, List.all_cons, List.all_nil, List.any_cons, List.any_nil, a0, a1, a2, b0, b1, b2] <;>
    (generalize m.getD i false = p; generalize m.getD g.f1.toNat false = q; generalize m.getD g.f2.toNat false = r; cases p <;> cases q <;> cases r <;> rfl)
theorem cFrom_sem (m : List Bool) : ∀ (l : List S69) (i : Nat), (∀ j (h : j < l.length), gok l[j] (i + j)) → holdsB m (cFrom i l) = consF i l m
  | [], i, _ => rfl
  | g :: gs, i, hok => by
    have ih := cFrom_sem m gs (i + 1) (fun j hj => by
      have := hok (j + 1) (by simp; omega)
      rw [List.getElem_cons_succ] at this
      rw [show i + 1 + j = i + (j + 1) by omega]; exact this)
    have h0 := gC_sem (hok 0 (by simp)) m
    unfold cFrom consF
    unfold holdsB at ih h0 ⊢
    rw [List.all_append, ih]
    simp only [List.getElem_cons_zero, Nat.add_zero] at h0
    rw [h0]
theorem clausesM_sem (l : List S69) (hl : 1 ≤ l.length) (hok : ∀ j (h : j < l.length), gok l[j] j) (m : List Bool) : holdsB m (clausesM l) = (consF 0 l m && m.getD (l.length - 1) false) := by
  have h := cFrom_sem m l 0 (fun j hj => by rw [Nat.zero_add]; exact hok j hj)
  unfold clausesM
  unfold holdsB at h ⊢
  rw [List.all_append, h, List.all_cons, List.all_nil, List.any_cons, List.any_nil, litB_pos m _ (by omega), Int.toNat_natCast, Bool.or_false, Bool.and_true]
theorem inps_snoc (g : S69) : ∀ (A : List S69) (i : Nat), inpsFrom i (A ++ [g]) = inpsFrom i A ++ (if g.f0 = 1 then [((i + A.length : Nat) : Int)] else [])
  | [], i => by by_cases e : g.f0 = 1 <;> simp [inpsFrom, e]
  | h :: A, i => by
    have ih := inps_snoc g A (i + 1)
    have u : ∀ (i : Nat) (h : S69) (B : List S69), inpsFrom i (h :: B) = if h.f0 = 1 then (i : Int) :: inpsFrom (i + 1) B else inpsFrom (i + 1) B := fun _ _ _ => rfl
    rw [List.cons_append, u, u]
    rw [ih, List.length_cons, show i + 1 + A.length = i + (A.length + 1) by omega]
    by_cases e : h.f0 = 1
    · rw [if_pos e, if_pos e]; rfl
    · rw [if_neg e, if_neg e]
theorem eval_snoc (g : S69) : ∀ (A : List S69) (i : Nat) (ins acc : List Bool), evalFrom (A ++ [g]) ins acc = evalFrom A ins acc ++ [gval g (ins.drop (inpsFrom i A).length) (evalFrom A ins acc)]
  | [], i, ins, acc => by simp [evalFrom, inpsFrom]
  | h :: A, i, ins, acc => by
    rw [List.cons_append]
    unfold evalFrom
    rw [eval_snoc g A (i + 1)]
    have u : inpsFrom i (h :: A) = if h.f0 = 1 then (i : Int) :: inpsFrom (i + 1) A else inpsFrom (i + 1) A := rfl
    rw [u]
    by_cases e : h.f0 = 1
    · rw [if_pos e, if_pos e, List.drop_drop, List.length_cons, Nat.add_comm 1]
    · rw [if_neg e, if_neg e]
theorem eval_more (b : List Bool) : ∀ (A : List S69) (i : Nat) (ins acc : List Bool), (inpsFrom i A).length ≤ ins.length → evalFrom A (ins ++ b) acc = evalFrom A ins acc
  | [], i, ins, acc, _ => rfl
  | h :: A, i, ins, acc, hn => by
    unfold inpsFrom at hn
    unfold evalFrom
    by_cases e : h.f0 = 1
    · rw [if_pos e, List.length_cons] at hn
      obtain ⟨x, xs, rfl⟩ : ∃ x xs, ins = x :: xs := by
        cases ins with
        | nil => simp at hn
        | cons x xs => exact ⟨x, xs, rfl⟩
      have hg : gval h (x :: xs ++ b) acc = gval h (x :: xs) acc := by unfold gval; rw [if_pos e, if_pos e]; rfl
      rw [if_pos e, if_pos e, hg]
      exact eval_more b A (i + 1) xs _ (by simp at hn; omega)
    · rw [if_neg e] at hn
      have hg : gval h (ins ++ b) acc = gval h ins acc := by unfold gval; rw [if_neg e, if_neg e]
      rw [if_neg e, if_neg e, hg]
      exact eval_more b A (i + 1) ins _ hn
theorem gval_ins (g : S69) (h : g.f0 ≠ 1) (x y m : List Bool) : gval g x m = gval g y m := by unfold gval; rw [if_neg h, if_neg h]
theorem getD_app (m : List Bool) (b : List Bool) (i : Nat) (h : i < m.length) : (m ++ b).getD i false = m.getD i false := by
  simp only [List.getD_eq_getElem?_getD]; rw [List.getElem?_append_left h]
theorem getD_last (m : List Bool) (b : Bool) (n : Nat) (h : m.length = n) : (m ++ [b]).getD n false = b := by
  subst h
  rw [List.getD_eq_getElem?_getD, List.getElem?_append_right (Nat.le_refl _), Nat.sub_self]; rfl
theorem gval_app {g : S69} {i : Nat} (h : gok g i) (h1 : g.f0 ≠ 1) (m b : List Bool) (hm : i ≤ m.length) : gval g [] (m ++ b) = gval g [] m := by
  have ha := gok_lt h h1
  unfold gval
  rw [if_neg h1, if_neg h1, getD_app m b _ (by omega)]
  by_cases h2 : g.f0 = 2
  · rw [if_pos h2, if_pos h2]
  · rw [if_neg h2, if_neg h2, getD_app m b _ (by have := gok_lt2 h h1 h2; omega)]
theorem agree_app {g : S69} {i : Nat} (h : gok g i) (m b : List Bool) (hm : i < m.length) : agree g (m ++ b) i = agree g m i := by
  unfold agree
  by_cases h1 : g.f0 = 1
  · rw [if_pos h1, if_pos h1]
  · rw [if_neg h1, if_neg h1, getD_app m b i hm, gval_app h h1 m b (by omega)]
theorem cons_app (b : List Bool) (m : List Bool) : ∀ (A : List S69) (i : Nat), (∀ j (h : j < A.length), gok A[j] (i + j)) → i + A.length ≤ m.length → consF i A (m ++ b) = consF i A m
  | [], i, _, _ => rfl
  | g :: A, i, hok, hm => by
    rw [List.length_cons] at hm
    have h0 := hok 0 (by simp)
    simp only [List.getElem_cons_zero, Nat.add_zero] at h0
    unfold consF
    rw [agree_app h0 m b (by omega), cons_app b m A (i + 1) (fun j hj => by
      have := hok (j + 1) (by simp; omega)
      rw [List.getElem_cons_succ] at this
      rw [show i + 1 + j = i + (j + 1) by omega]; exact this) (by omega)]
theorem cons_snoc (g : S69) (m : List Bool) : ∀ (A : List S69) (i : Nat), consF i (A ++ [g]) m = (consF i A m && agree g m (i + A.length))
  | [], i => by simp [consF]
  | h :: A, i => by
    rw [List.cons_append]
    unfold consF
    rw [cons_snoc g m A (i + 1), List.length_cons, show i + 1 + A.length = i + (A.length + 1) by omega, Bool.and_assoc]
def cntM : Nat → (List Bool → Bool) → Nat
  | 0, F => (F []).toNat
  | n + 1, F => cntM n (fun m => F (m ++ [false])) + cntM n (fun m => F (m ++ [true]))
theorem cntM_congr : ∀ (n : Nat) (F G : List Bool → Bool), (∀ m, m.length = n → F m = G m) → cntM n F = cntM n G
  | 0, F, G, h => by unfold cntM; rw [h [] rfl]
  | n + 1, F, G, h => by
    unfold cntM
    rw [cntM_congr n _ _ (fun m hm => h (m ++ [false]) (by simp [hm])), cntM_congr n _ _ (fun m hm => h (m ++ [true]) (by simp [hm]))]
theorem cntM_add : ∀ (n : Nat) (F G H : List Bool → Bool), (∀ m, m.length = n → (F m).toNat + (G m).toNat = (H m).toNat) → cntM n F + cntM n G = cntM n H
  | 0, F, G, H, h => h [] rfl
  | n + 1, F, G, H, h => by
    have h0 := cntM_add n (fun m => F (m ++ [false])) (fun m => G (m ++ [false])) (fun m => H (m ++ [false])) (fun m hm => h _ (by simp [hm]))
    have h1 := cntM_add n (fun m => F (m ++ [true])) (fun m => G (m ++ [true])) (fun m => H (m ++ [true])) (fun m hm => h _ (by simp [hm]))
    unfold cntM; omega
def cR (F : Nat → Bool) : Nat → Nat → Nat
  | _, 0 => 0
  | i, d + 1 => (F i).toNat + cR F (i + 1) d
theorem cR_add (F : Nat → Bool) : ∀ (d e i : Nat), cR F i (d + e) = cR F i d + cR F (i + d) e
  | 0, e, i => by simp [cR]
  | d + 1, e, i => by
    have u : ∀ i d, cR F i (d + 1) = (F i).toNat + cR F (i + 1) d := fun _ _ => rfl
    rw [show d + 1 + e = (d + e) + 1 by omega, u, u, cR_add F d e (i + 1), show i + 1 + d = i + (d + 1) by omega]; omega
theorem cR_congr (F G : Nat → Bool) : ∀ (d i : Nat), (∀ z, i ≤ z → z < i + d → F z = G z) → cR F i d = cR G i d
  | 0, i, _ => rfl
  | d + 1, i, h => by unfold cR; rw [h i (by omega) (by omega), cR_congr F G d (i + 1) (fun z h1 h2 => h z (by omega) (by omega))]
theorem cR_shift (F : Nat → Bool) (s : Nat) : ∀ (d i : Nat), cR F (s + i) d = cR (fun z => F (s + z)) i d
  | 0, i => rfl
  | d + 1, i => by unfold cR; rw [Nat.add_assoc, cR_shift F s d (i + 1)]
theorem modelM_lo (n z : Nat) (hn : n ≤ 40) (hz : z < 2 ^ n) : modelM (n + 1) (z : Int) = modelM n (z : Int) ++ [false] := by
  have hp : 2 ^ n ≤ 2 ^ 40 := Nat.pow_le_pow_right (by decide) hn
  unfold modelM
  rw [List.range_succ, List.map_append, List.map_singleton, bitM_nat z n (by omega) (by omega), Nat.testBit_lt_two_pow hz]
theorem modelM_hi (n z : Nat) (hn : n ≤ 40) (hz : z < 2 ^ n) : modelM (n + 1) ((2 ^ n + z : Nat) : Int) = modelM n (z : Int) ++ [true] := by
  have hp : 2 ^ n ≤ 2 ^ 40 := Nat.pow_le_pow_right (by decide) hn
  unfold modelM
  rw [List.range_succ, List.map_append, List.map_singleton, bitM_nat (2 ^ n + z) n (by omega) (by omega), Nat.testBit_two_pow_add_eq, Nat.testBit_lt_two_pow hz]
  congr 1
  refine List.map_congr_left (fun i hi => ?_)
  have hi' := List.mem_range.1 hi
  rw [bitM_nat _ i (by omega) (by omega), bitM_nat _ i (by omega) (by omega), Nat.testBit_two_pow_add_gt hi']
theorem cR_cntM : ∀ (n : Nat) (F : List Bool → Bool), n ≤ 40 → cR (fun z => F (modelM n (z : Int))) 0 (2 ^ n) = cntM n F
  | 0, F, _ => by simp [cR, cntM, modelM]
  | n + 1, F, hn => by
    unfold cntM
    rw [← cR_cntM n _ (by omega), ← cR_cntM n _ (by omega), show 2 ^ (n + 1) = 2 ^ n + 2 ^ n by rw [Nat.pow_succ]; omega, cR_add]
    congr 1
    · exact cR_congr _ _ _ _ (fun z _ hz => by rw [modelM_lo n z (by omega) (by omega)])
    · have := cR_shift (fun z => F (modelM (n + 1) (z : Int))) (2 ^ n) (2 ^ n) 0
      rw [show 2 ^ n + 0 = 2 ^ n from rfl] at this
      rw [Nat.zero_add]
      refine this.trans ?_
      exact cR_congr _ _ _ _ (fun z _ hz => by rw [modelM_hi n z (by omega) (by omega)])
theorem take_snoc {α : Type} (l : List α) (n : Nat) (h : n < l.length) : l.take (n + 1) = l.take n ++ [l[n]] := List.take_succ_eq_append_getElem h
theorem take_ok {l : List S69} (hok : ∀ j (h : j < l.length), gok l[j] j) (n : Nat) : ∀ j (h : j < (l.take n).length), gok (l.take n)[j] (0 + j) := by
  intro j hj
  rw [List.length_take] at hj
  rw [List.getElem_take, Nat.zero_add]; exact hok j (by omega)
theorem cons_count (l : List S69) (hok : ∀ j (h : j < l.length), gok l[j] j) : ∀ (n : Nat), n ≤ l.length → ∀ P : List Bool → Bool, cntM n (fun m => consF 0 (l.take n) m && P m) = cntM (inps (l.take n)).length (fun ins => P (evalM (l.take n) ins))
  | 0, _, P => by simp [consF, inps, inpsFrom, evalM, evalFrom, cntM]
  | n + 1, hn, P => by
    have hA : (l.take n).length = n := by rw [List.length_take]; omega
    have hg := hok n (by omega)
    have ih := cons_count l hok n (by omega)
    have hc : ∀ (m b : List Bool), m.length = n → consF 0 (l.take n) (m ++ b) = consF 0 (l.take n) m := fun m b hm => cons_app b m (l.take n) 0 (take_ok hok n) (by omega)
    rw [take_snoc l n (by omega)]
    have hi := inps_snoc l[n] (l.take n) 0
    rw [Nat.zero_add, hA] at hi
    by_cases h1 : l[n].f0 = 1
    · rw [if_pos h1] at hi
      have hlen : (inps (l.take n ++ [l[n]])).length = (inps (l.take n)).length + 1 := by unfold inps; rw [hi, List.length_append, List.length_singleton]
      rw [hlen]
      have ev : ∀ (ins : List Bool) (b : Bool), ins.length = (inps (l.take n)).length → evalM (l.take n ++ [l[n]]) (ins ++ [b]) = evalM (l.take n) ins ++ [b] := by
        intro ins b hins
        unfold evalM
        rw [eval_snoc l[n] (l.take n) 0, eval_more [b] (l.take n) 0 ins [] (by show (inps (l.take n)).length ≤ _; omega)]
        congr 2
        unfold gval
        rw [if_pos h1]
        have : (inpsFrom 0 (l.take n)).length = ins.length := hins.symm
        rw [this, List.drop_left]; rfl
      have side : ∀ b : Bool, cntM n (fun m => consF 0 (l.take n ++ [l[n]]) (m ++ [b]) && P (m ++ [b])) = cntM (inps (l.take n)).length (fun ins => P (evalM (l.take n ++ [l[n]]) (ins ++ [b]))) := by
        intro b
        rw [cntM_congr n _ (fun m => consF 0 (l.take n) m && P (m ++ [b])) (fun m hm => by
          rw [cons_snoc, hc m [b] hm]; unfold agree; rw [if_pos h1, Bool.and_true])]
        rw [ih (fun m => P (m ++ [b]))]
        exact cntM_congr _ _ _ (fun ins hins => by rw [ev ins b hins])
      unfold cntM
      rw [side false, side true]
    · rw [if_neg h1, List.append_nil] at hi
      have hlen : (inps (l.take n ++ [l[n]])).length = (inps (l.take n)).length := by unfold inps; rw [hi]
      rw [hlen]
      have ev : ∀ (ins : List Bool), evalM (l.take n ++ [l[n]]) ins = evalM (l.take n) ins ++ [gval l[n] [] (evalM (l.take n) ins)] := by
        intro ins
        unfold evalM
        rw [eval_snoc l[n] (l.take n) 0, gval_ins l[n] h1 _ []]
      have ha : ∀ (m : List Bool) (b : Bool), m.length = n → agree l[n] (m ++ [b]) n = (b == gval l[n] [] m) := by
        intro m b hm
        unfold agree
        rw [if_neg h1, gval_app hg h1 m [b] (by omega)]
        rw [getD_last _ _ _ hm]
      rw [cntM_congr _ (fun ins => P (evalM (l.take n ++ [l[n]]) ins)) (fun ins => P (evalM (l.take n) ins ++ [gval l[n] [] (evalM (l.take n) ins)])) (fun ins _ => by rw [ev ins])]
      rw [← ih (fun m => P (m ++ [gval l[n] [] m]))]
      refine cntM_add n (fun m => consF 0 (l.take n ++ [l[n]]) (m ++ [false]) && P (m ++ [false])) (fun m => consF 0 (l.take n ++ [l[n]]) (m ++ [true]) && P (m ++ [true])) _ (fun m hm => ?_)
      rw [cons_snoc, cons_snoc, hc m [false] hm, hc m [true] hm, Nat.zero_add, hA, ha m false hm, ha m true hm]
      cases gval l[n] [] m <;> cases consF 0 (l.take n) m <;> simp
theorem cons_eval (l : List S69) (hok : ∀ j (h : j < l.length), gok l[j] j) : ∀ (n : Nat), n ≤ l.length → ∀ ins : List Bool, ins.length = (inps (l.take n)).length → consF 0 (l.take n) (evalM (l.take n) ins) = true ∧ (inps (l.take n)).map (fun x => rdOf false (evalM (l.take n) ins) x) = ins
  | 0, _, ins, h => by
    simp only [List.take_zero] at h ⊢
    have : ins = [] := List.length_eq_zero_iff.1 h
    subst this
    exact ⟨rfl, rfl⟩
  | n + 1, hn, ins, h => by
    have hA : (l.take n).length = n := by rw [List.length_take]; omega
    have hg := hok n (by omega)
    have hc : ∀ (m b : List Bool), m.length = n → consF 0 (l.take n) (m ++ b) = consF 0 (l.take n) m := fun m b hm => cons_app b m (l.take n) 0 (take_ok hok n) (by omega)
    have hE : ∀ ins, (evalM (l.take n) ins).length = n := fun ins => by rw [evalM_len, hA]
    rw [take_snoc l n (by omega)] at h ⊢
    have hi := inps_snoc l[n] (l.take n) 0
    rw [Nat.zero_add, hA] at hi
    have hold : ∀ (E b : List Bool), E.length = n → (inps (l.take n)).map (fun x => rdOf false (E ++ b) x) = (inps (l.take n)).map (fun x => rdOf false E x) := by
      intro E b hEl
      refine List.map_congr_left (fun x hx => ?_)
      have := inpsFrom_mem (l.take n) 0 x hx
      rw [hA] at this
      rw [rdOf_getD, rdOf_getD, getD_app E b _ (by omega)]
    by_cases h1 : l[n].f0 = 1
    · rw [if_pos h1] at hi
      have hlen : (inps (l.take n ++ [l[n]])).length = (inps (l.take n)).length + 1 := by unfold inps; rw [hi, List.length_append, List.length_singleton]
      rw [hlen] at h
      obtain ⟨is, b, rfl⟩ : ∃ is b, ins = is ++ [b] := by
        exact ⟨ins.dropLast, ins.getLast (by intro e; rw [e] at h; simp at h), (List.dropLast_concat_getLast _).symm⟩
      rw [List.length_append, List.length_singleton] at h
      have hins : is.length = (inps (l.take n)).length := by omega
      have ev : evalM (l.take n ++ [l[n]]) (is ++ [b]) = evalM (l.take n) is ++ [b] := by
        unfold evalM
        rw [eval_snoc l[n] (l.take n) 0, eval_more [b] (l.take n) 0 is [] (by show (inps (l.take n)).length ≤ _; omega)]
        congr 2
        unfold gval
        rw [if_pos h1]
        have : (inpsFrom 0 (l.take n)).length = is.length := hins.symm
        rw [this, List.drop_left]; rfl
      obtain ⟨q1, q2⟩ := cons_eval l hok n (by omega) is hins
      rw [ev]
      refine ⟨?_, ?_⟩
      · rw [cons_snoc, hc _ [b] (hE is), q1]; unfold agree; rw [if_pos h1]; rfl
      · have : inps (l.take n ++ [l[n]]) = inps (l.take n) ++ [(n : Int)] := hi
        rw [this, List.map_append, hold _ [b] (hE is), q2, List.map_singleton]
        congr 2
        rw [rdOf_getD, Int.toNat_natCast]
        exact getD_last _ _ _ (hE is)
    · rw [if_neg h1, List.append_nil] at hi
      have hin : inps (l.take n ++ [l[n]]) = inps (l.take n) := hi
      rw [hin] at h ⊢
      obtain ⟨q1, q2⟩ := cons_eval l hok n (by omega) ins h
      have ev : evalM (l.take n ++ [l[n]]) ins = evalM (l.take n) ins ++ [gval l[n] [] (evalM (l.take n) ins)] := by
        unfold evalM
        rw [eval_snoc l[n] (l.take n) 0, gval_ins l[n] h1 _ []]
      rw [ev]
      refine ⟨?_, by rw [hold _ _ (hE ins), q2]⟩
      rw [cons_snoc, hc _ _ (hE ins), q1, Nat.zero_add, hA]
      unfold agree
      rw [if_neg h1, gval_app hg h1 _ _ (by rw [hE ins]; omega)]
      rw [getD_last _ _ _ (hE ins)]
      simp
theorem tseitin_count (l : List S69) (hl : 1 ≤ l.length ∧ l.length ≤ 12) (hok : ∀ j (h : j < l.length), gok l[j] j) :
    cR (fun z => holdsB (modelM l.length (z : Int)) (clausesM l)) 0 (2 ^ l.length) = cR (fun z => outM l (modelM (inps l).length (z : Int))) 0 (2 ^ (inps l).length) := by
  have hlen := inps_len l
  rw [cR_cntM l.length (fun m => holdsB m (clausesM l)) (by omega), cR_cntM (inps l).length (fun ins => outM l ins) (by omega)]
  rw [cntM_congr l.length _ (fun m => consF 0 l m && m.getD (l.length - 1) false) (fun m _ => clausesM_sem l hl.1 hok m)]
  have h := cons_count l hok l.length (Nat.le_refl _) (fun m => m.getD (l.length - 1) false)
  rw [List.take_length] at h
  rw [h]
  refine cntM_congr _ _ _ (fun ins _ => ?_)
  unfold outM
  rw [rdOf_getD, show ((l.length : Int) - 1).toNat = l.length - 1 by omega]
theorem sameRows_loop (l : List (List Int)) (hl : l.length ≤ 1048576 ∧ ∀ c, c ∈ l → c.length ≤ 1048576) : ∀ (d i : Nat), i + d = l.length → Ev (fun k => laws_sameRows.l0 k l l (l.length : Int) (i : Int)) true
  | 0, i, h => Ev.step (fun k => laws_sameRows.l0.eq_2 ..) (Ev.neg (by omega) (Ev.now _))
  | d + 1, i, h => by
    have hi : i < l.length := by omega
    have h1 := hl.1
    have hc := hl.2 l[i] (List.getElem_mem hi)
    refine Ev.step (fun k => laws_sameRows.l0.eq_2 ..) (Ev.pos (by omega) (Ev.pos (by omega) (Ev.pos (by omega) (Ev.pos (by omega) ?_))))
    rw [show rd_L2 l (i : Int) = l[i] by unfold rd_L2; simp [List.getD, hi], w1 i (by omega)]
    exact Ev.bind (sameInts_self l[i] (by omega)) (Ev.pos rfl (sameRows_loop l hl d (i + 1) (by omega)))
theorem sameRows_self (l : List (List Int)) (hl : l.length ≤ 1048576 ∧ ∀ c, c ∈ l → c.length ≤ 1048576) : Ev (fun k => laws_sameRows.f k l l) true := Ev.pos rfl (sameRows_loop l hl l.length 0 (by omega))
theorem gates_l1 {l : List Int} (hl : Bytes l) : ∀ (d : Nat) (x : List S69) (a s : Int), 1 ≤ x.length → x.length + d ≤ 100 → 0 ≤ a → a + 10 * (d : Int) ≤ 1000000000 →
    EvP (fun k => spec_l1Cur_gates.l1 k x (d : Int) l a s) (fun r => (1 ≤ r.1.length ∧ r.1.length ≤ x.length + d) ∧ a ≤ r.2.1 ∧ r.2.1 ≤ a + 10 * (d : Int) + 10)
  | 0, x, a, s, h1, h2, h3, h4 => by
    refine EvP.step (fun k => spec_l1Cur_gates.l1.eq_2 ..) (EvP.neg (by omega) ?_)
    refine EvP.bindE (P := fun r => a ≤ r.2.1 ∧ r.2.1 ≤ a + 2) (one_ok hl a s 20 h3 (by omega)) fun p hp => EvP.ite (fun _ => ?_) (fun _ => EvP.now _ (by simp only; omega))
    refine EvP.bindE (P := fun r => (0 ≤ r.1 ∧ r.1 ≤ (x.length : Int) - 1 ∨ r.1 = 0 ∧ (x.length : Int) ≤ 1) ∧ p.2.1 ≤ r.2.1 ∧ r.2.1 ≤ p.2.1 + 2) (pick_ok hl _ _ _ (by omega) (by omega)) fun q hq => ?_
    refine EvP.bindE (P := fun r => (0 ≤ r.1 ∧ r.1 ≤ (7 : Int) - 1 ∨ r.1 = 0 ∧ (7 : Int) ≤ 1) ∧ q.2.1 ≤ r.2.1 ∧ r.2.1 ≤ q.2.1 + 2) (pick_ok hl _ _ _ (by omega) (by omega)) fun t ht => ?_
    refine EvP.bindE (P := fun r => (0 ≤ r.1 ∧ r.1 ≤ (5 : Int) - 1 ∨ r.1 = 0 ∧ (5 : Int) ≤ 1) ∧ t.2.1 ≤ r.2.1 ∧ r.2.1 ≤ t.2.1 + 2) (pick_ok hl _ _ _ (by omega) (by omega)) fun u hu => ?_
    refine EvP.bindE (P := fun r => (0 ≤ r.1 ∧ r.1 ≤ (3 : Int) - 1 ∨ r.1 = 0 ∧ (3 : Int) ≤ 1) ∧ u.2.1 ≤ r.2.1 ∧ r.2.1 ≤ u.2.1 + 2) (pick_ok hl _ _ _ (by omega) (by omega)) fun v hv => ?_
    refine EvP.pos (by omega) (EvP.pos (by omega) (EvP.now _ ?_))
    simp only [List.length_set]
    omega
  | d + 1, x, a, s, h1, h2, h3, h4 => by
    have ew : wrap64 (((d + 1 : Nat) : Int) - 1) = (d : Int) := by unfold wrap64; omega
    refine EvP.step (fun k => spec_l1Cur_gates.l1.eq_2 ..) (EvP.pos (by omega) ?_)
    rw [ew]
    refine EvP.bindE (P := fun r => (0 ≤ r.1 ∧ r.1 ≤ (4 : Int) - 1 ∨ r.1 = 0 ∧ (4 : Int) ≤ 1) ∧ a ≤ r.2.1 ∧ r.2.1 ≤ a + 2) (pick_ok hl _ _ _ (by omega) (by omega)) fun p hp => ?_
    refine EvP.bindE (P := fun r => (0 ≤ r.1 ∧ r.1 ≤ (x.length : Int) - 1 ∨ r.1 = 0 ∧ (x.length : Int) ≤ 1) ∧ p.2.1 ≤ r.2.1 ∧ r.2.1 ≤ p.2.1 + 2) (pick_ok hl _ _ _ (by omega) (by omega)) fun q hq => ?_
    refine EvP.ite (fun _ => EvP.pos (by omega) ?_) (fun _ => ?_)
    · refine (gates_l1 hl d _ q.2.1 q.2.2 (by simp) (by simp; omega) (by omega) (by omega)).mono fun r hr => ?_
      simp only [List.length_append, List.length_singleton] at hr
      omega
    · refine EvP.bindE (P := fun r => (0 ≤ r.1 ∧ r.1 ≤ (x.length : Int) - 1 ∨ r.1 = 0 ∧ (x.length : Int) ≤ 1) ∧ q.2.1 ≤ r.2.1 ∧ r.2.1 ≤ q.2.1 + 2) (pick_ok hl _ _ _ (by omega) (by omega)) fun t ht => EvP.pos (by omega) ?_
      refine (gates_l1 hl d _ t.2.1 t.2.2 (by simp) (by simp; omega) (by omega) (by omega)).mono fun r hr => ?_
      simp only [List.length_append, List.length_singleton] at hr
      omega
theorem gates_l0 {l : List Int} (hl : Bytes l) : ∀ (d : Nat) (x : List S69) (a s : Int), 1 ≤ x.length + d → x.length + d ≤ 10 → 0 ≤ a → a ≤ 1000000 →
    EvP (fun k => spec_l1Cur_gates.l0 k x (d : Int) l a s) (fun r => (1 ≤ r.1.length ∧ r.1.length ≤ 100) ∧ a ≤ r.2.1 ∧ r.2.1 ≤ a + 1000)
  | 0, x, a, s, h1, h2, h3, h4 => by
    refine EvP.step (fun k => spec_l1Cur_gates.l0.eq_2 ..) (EvP.neg (by omega) ?_)
    refine EvP.bindE (P := fun r => (0 ≤ r.1 ∧ r.1 ≤ (6 : Int) - 1 ∨ r.1 = 0 ∧ (6 : Int) ≤ 1) ∧ a ≤ r.2.1 ∧ r.2.1 ≤ a + 2) (pick_ok hl _ _ _ (by omega) (by omega)) fun p hp => ?_
    refine EvP.bindE (P := fun r => p.2.1 ≤ r.2.1 ∧ r.2.1 ≤ p.2.1 + 2) (one_ok hl _ _ 20 (by omega) (by omega)) fun q hq => EvP.ite (fun _ => ?_) (fun _ => ?_)
    · refine EvP.step (fun k => spec_l1Cur_gates.j1.eq_2 ..) ?_
      exact (gates_l1 hl 9 x q.2.1 q.2.2 (by omega) (by omega) (by omega) (by omega)).mono fun r hr => by omega
    · refine EvP.step (fun k => spec_l1Cur_gates.j1.eq_2 ..) ?_
      obtain ⟨n, hn⟩ := Int.eq_ofNat_of_zero_le (show 0 ≤ p.1 by omega)
      rw [hn]
      exact (gates_l1 hl n x q.2.1 q.2.2 (by omega) (by omega) (by omega) (by omega)).mono fun r hr => by omega
  | d + 1, x, a, s, h1, h2, h3, h4 => by
    have ew : wrap64 (((d + 1 : Nat) : Int) - 1) = (d : Int) := by unfold wrap64; omega
    refine EvP.step (fun k => spec_l1Cur_gates.l0.eq_2 ..) (EvP.pos (by omega) (EvP.pos (by omega) ?_))
    rw [ew]
    exact gates_l0 hl d _ a s (by rw [List.length_append, List.length_singleton]; omega) (by rw [List.length_append, List.length_singleton]; omega) h3 h4
theorem gates_ok {l : List Int} (hl : Bytes l) (a s : Int) (h3 : 0 ≤ a) (h4 : a ≤ 100000) : EvP (fun k => spec_l1Cur_gates.f k l a s) (fun r => (1 ≤ r.1.length ∧ r.1.length ≤ 100) ∧ a ≤ r.2.1 ∧ r.2.1 ≤ a + 2000) := by
  unfold spec_l1Cur_gates.f
  refine EvP.bindE (P := fun r => (0 ≤ r.1 ∧ r.1 ≤ (4 : Int) - 1 ∨ r.1 = 0 ∧ (4 : Int) ≤ 1) ∧ a ≤ r.2.1 ∧ r.2.1 ≤ a + 2) (pick_ok hl _ _ _ (by omega) (by omega)) fun p hp => ?_
  obtain ⟨n, hn⟩ := Int.eq_ofNat_of_zero_le (show 0 ≤ p.1 by omega)
  have ew : wrap64 (1 + p.1) = ((n + 1 : Nat) : Int) := by rw [hn]; unfold wrap64; omega
  rw [ew]
  exact (gates_l0 hl (n + 1) [] p.2.1 p.2.2 (by simp) (by simp; omega) (by omega) (by omega)).mono fun r hr => by omega
theorem erase_sub : ∀ (n : Nat) (l : List Nat), l.Nodup → (∀ x, x ∈ l → 1 ≤ x ∧ x ≤ n) → l.length ≤ n
  | 0, l, _, h => by
    cases l with
    | nil => exact Nat.le_refl _
    | cons a t => have := h a (by simp); omega
  | n + 1, l, hd, h => by
    by_cases hm : n + 1 ∈ l
    · have h2 := erase_sub n (l.erase (n + 1)) (hd.erase _) (fun x hx => by
        have hx2 := (List.Nodup.mem_erase_iff hd).1 hx
        have := h x hx2.2
        have := hx2.1
        omega)
      rw [List.length_erase_of_mem hm] at h2
      omega
    · have h2 := erase_sub n l hd (fun x hx => by
        have := h x hx
        have : x ≠ n + 1 := fun e => hm (e ▸ hx)
        omega)
      omega
theorem full_len : ∀ (n : Nat) (l : List Nat), (∀ x, 1 ≤ x → x ≤ n → x ∈ l) → n ≤ l.length
  | 0, _, _ => Nat.zero_le _
  | n + 1, l, h => by
    have hm := h (n + 1) (by omega) (by omega)
    have h2 := full_len n (l.erase (n + 1)) (fun x h1 h3 => (List.mem_erase_of_ne (by omega)).2 (h x h1 (by omega)))
    rw [List.length_erase_of_mem hm] at h2
    have : 0 < l.length := List.length_pos_of_mem hm
    omega
def Lits (v : Nat) (c : List Int) : Prop := Dis c ∧ ∀ x, x ∈ c → x ≠ 0 ∧ -(v : Int) ≤ x ∧ x ≤ (v : Int)
theorem Dis.nodup : ∀ (c : List Int), Dis c → (c.map Int.natAbs).Nodup := by
  intro c h
  rw [List.Nodup, List.pairwise_iff_getElem]
  intro i j hi hj hij
  rw [List.length_map] at hi hj
  rw [List.getElem_map, List.getElem_map]
  obtain ⟨h1, h2⟩ := h j hj
  have hm : c[i] ∈ c.take j := List.mem_take_iff_getElem.2 ⟨i, by omega, rfl⟩
  intro e
  rcases Int.natAbs_eq_natAbs_iff.1 e with e | e
  · exact h1 (e ▸ hm)
  · exact h2 (by rw [show -c[j] = c[i] by omega]; exact hm)
theorem Lits.len {v : Nat} {c : List Int} (h : Lits v c) : c.length ≤ v := by
  have := erase_sub v (c.map Int.natAbs) (Dis.nodup c h.1) (fun x hx => by
    obtain ⟨y, hy, rfl⟩ := List.mem_map.1 hx
    have := h.2 y hy
    omega)
  rwa [List.length_map] at this
theorem Lits.snoc {v : Nat} {c : List Int} {x : Int} (h : Lits v c) (hx : x ≠ 0 ∧ -(v : Int) ≤ x ∧ x ≤ (v : Int)) (h1 : x ∉ c) (h2 : -x ∉ c) : Lits v (c ++ [x]) :=
  ⟨h.1.snoc h1 h2, fun y hy => by
    rcases List.mem_append.1 hy with hy | hy
    · exact h.2 y hy
    · rw [List.mem_singleton.1 hy]; exact hx⟩
theorem Lits.no {v : Nat} {c : List Int} (h : Lits v c) {x : Int} (hx : x ∈ c) : -x ∉ c := by
  intro hn
  obtain ⟨i, hi, ei⟩ := List.getElem_of_mem hx
  obtain ⟨j, hj, ej⟩ := List.getElem_of_mem hn
  have h0 := h.2 x hx
  rcases Nat.lt_trichotomy i j with hij | hij | hij
  · exact (h.1 j hj).2 (by rw [ej, Int.neg_neg, ← ei]; exact List.mem_take_iff_getElem.2 ⟨i, by omega, rfl⟩)
  · subst hij; omega
  · exact (h.1 i hi).2 (by rw [ei, ← ej]; exact List.mem_take_iff_getElem.2 ⟨j, by omega, rfl⟩)
theorem Lits.take {v : Nat} {c : List Int} (h : Lits v c) (n : Nat) : Lits v (c.take n) := by
  refine ⟨fun j hj => ?_, fun x hx => h.2 x (List.mem_of_mem_take hx)⟩
  have hj2 : j < c.length := by rw [List.length_take] at hj; omega
  rw [List.length_take] at hj
  rw [List.getElem_take, List.take_take, Nat.min_eq_left (by omega)]
  exact h.1 j hj2
theorem Dis.two {c : List Int} (h : Dis c) {p : Int → Bool} {y z : Int} {s : List Int} (e : c.filter p = y :: z :: s) : y ∈ c ∧ z ∈ c ∧ p y = true ∧ p z = true ∧ y.natAbs ≠ z.natAbs := by
  have hy : y ∈ c.filter p := by rw [e]; simp
  have hz : z ∈ c.filter p := by rw [e]; simp
  have hn : ((c.filter p).map Int.natAbs).Nodup := List.Nodup.sublist (List.Sublist.map _ List.filter_sublist) (Dis.nodup c h)
  rw [e, List.map_cons, List.map_cons] at hn
  exact ⟨(List.mem_filter.1 hy).1, (List.mem_filter.1 hz).1, (List.mem_filter.1 hy).2, (List.mem_filter.1 hz).2, fun e2 => (List.nodup_cons.1 hn).1 (by rw [e2]; simp)⟩
theorem neg_w {v : Nat} (hv : v ≤ 12) {x : Int} (h : -(v : Int) ≤ x ∧ x ≤ (v : Int)) : wrap64 (-x) = -x := wrap_id _ (by omega) (by omega)
theorem meet_iff {c out : List Int} : c.any out.contains = true ↔ ∃ x, x ∈ c ∧ x ∈ out := by
  rw [List.any_eq_true]
  exact ⟨fun ⟨x, h1, h2⟩ => ⟨x, h1, List.contains_iff_mem.1 h2⟩, fun ⟨x, h1, h2⟩ => ⟨x, h1, List.contains_iff_mem.2 h2⟩⟩
def lft (out : List Int) (c : List Int) : List Int := c.filter (fun x => !out.contains (wrap64 (-x)))
theorem scan_nothing : ∀ (l : List (List Int)) (out : List Int), impl_propagate.scan l out = none → ∀ c, c ∈ l → (∃ x, x ∈ c ∧ x ∈ out) ∨ ∃ y z s, lft out c = y :: z :: s
  | [], _, _, c, hc => by simp at hc
  | a :: t, out, h, c, hc => by
    by_cases m : a.any out.contains = true
    · rw [impl_propagate.scan_meet m] at h
      rcases List.mem_cons.1 hc with rfl | hc
      · exact Or.inl (meet_iff.1 m)
      · exact scan_nothing t out h c hc
    · rcases e : lft out a with _ | ⟨y, _ | ⟨z, s⟩⟩
      · rw [impl_propagate.scan_none m e] at h; cases h
      · rw [impl_propagate.scan_one m e] at h; cases h
      · rw [impl_propagate.scan_more m e] at h
        rcases List.mem_cons.1 hc with rfl | hc
        · exact Or.inr ⟨y, z, s, e⟩
        · exact scan_nothing t out h c hc
theorem scan_false : ∀ (l : List (List Int)) (out : List Int), impl_propagate.scan l out = some none → ∃ c, c ∈ l ∧ lft out c = []
  | [], _, h => by cases h
  | a :: t, out, h => by
    have up : impl_propagate.scan t out = some none → ∃ c, c ∈ a :: t ∧ lft out c = [] := fun h => by
      obtain ⟨c, hc, e⟩ := scan_false t out h
      exact ⟨c, List.mem_cons_of_mem _ hc, e⟩
    by_cases m : a.any out.contains = true
    · rw [impl_propagate.scan_meet m] at h; exact up h
    · rcases e : lft out a with _ | ⟨y, _ | ⟨z, s⟩⟩
      · exact ⟨a, by simp, e⟩
      · rw [impl_propagate.scan_one m e] at h; cases h
      · rw [impl_propagate.scan_more m e] at h; exact up h
theorem scan_unit : ∀ (l : List (List Int)) (out : List Int) (n : Int), impl_propagate.scan l out = some (some n) → ∃ c, c ∈ l ∧ lft out c = [n] ∧ ¬ ∃ x, x ∈ c ∧ x ∈ out
  | [], _, _, h => by cases h
  | a :: t, out, n, h => by
    have up : impl_propagate.scan t out = some (some n) → ∃ c, c ∈ a :: t ∧ lft out c = [n] ∧ ¬ ∃ x, x ∈ c ∧ x ∈ out := fun h => by
      obtain ⟨c, hc, e⟩ := scan_unit t out n h
      exact ⟨c, List.mem_cons_of_mem _ hc, e⟩
    by_cases m : a.any out.contains = true
    · rw [impl_propagate.scan_meet m] at h; exact up h
    · rcases e : lft out a with _ | ⟨y, _ | ⟨z, s⟩⟩
      · rw [impl_propagate.scan_none m e] at h; cases h
      · rw [impl_propagate.scan_one m e] at h
        have e2 : y = n := Option.some.inj (Option.some.inj h)
        subst e2
        exact ⟨a, by simp, e, fun q => m (meet_iff.2 q)⟩
      · rw [impl_propagate.scan_more m e] at h; exact up h
theorem lft_mem {v : Nat} (hv : v ≤ 12) {c out : List Int} {x : Int} (hx : -(v : Int) ≤ x ∧ x ≤ (v : Int)) : x ∈ lft out c ↔ x ∈ c ∧ -x ∉ out := by
  unfold lft
  rw [List.mem_filter, neg_w hv hx, Bool.not_eq_true', ← Bool.not_eq_true, List.contains_iff_mem]
def Cls (v : Nat) (l : List (List Int)) : Prop := ∀ c, c ∈ l → Lits v c
structure Prp (v : Nat) (l : List (List Int)) (given out : List Int) (fl : Bool) : Prop where
  lits : Lits v out
  sub : ∀ x, x ∈ given → x ∈ out
  snd : ∀ m : List Bool, holdsB m l = true → (∀ x, x ∈ given → litB m x = true) → ∀ x, x ∈ out → litB m x = true
  bad : fl = true → ∃ c, c ∈ l ∧ ∀ x, x ∈ c → -x ∈ out
  fin : fl = false → ∀ c, c ∈ l → (∃ x, x ∈ c ∧ x ∈ out) ∨ ∃ y z, y ∈ c ∧ z ∈ c ∧ y.natAbs ≠ z.natAbs ∧ -y ∉ out ∧ -z ∉ out
theorem prop_loop (v : Nat) (hv : v ≤ 12) (l : List (List Int)) (hl : l.length ≤ 1048576) (hc : Cls v l) (given : List Int) : ∀ (d : Nat) (out : List Int), out.length + d = v → Lits v out → (∀ x, x ∈ given → x ∈ out) →
    (∀ m : List Bool, holdsB m l = true → (∀ x, x ∈ given → litB m x = true) → ∀ x, x ∈ out → litB m x = true) → ∃ r fl, Ev (fun k => impl_propagate.l0 k l out) (r, fl) ∧ Prp v l given r fl := by
  intro d
  induction d with
  | zero =>
    intro out hd ho hs hm
    have hok : impl_propagate.ok l out = true := by
      simp only [impl_propagate.ok, Bool.and_eq_true, decide_eq_true_eq, List.all_eq_true]
      exact ⟨⟨by omega, by omega⟩, fun c h => by have := (hc c h).len; omega⟩
    rcases hsc : impl_propagate.scan l out with _ | _ | n
    · refine ⟨out, false, Ev.step (fun k => impl_propagate.l0.eq_2 ..) (Ev.pos hok (Ev.congr (fun k => by rw [hsc]) (Ev.now _))), ho, hs, hm, (fun h => by cases h), fun _ c h => ?_⟩
      rcases scan_nothing l out hsc c h with h2 | ⟨y, z, s, e⟩
      · exact Or.inl h2
      · obtain ⟨a1, a2, a3, a4, a5⟩ := Dis.two (hc c h).1 e
        have b1 := (lft_mem (out := out) (c := c) hv ((hc c h).2 y a1).2).1 (by rw [e]; simp)
        have b2 := (lft_mem (out := out) (c := c) hv ((hc c h).2 z a2).2).1 (by rw [e]; simp)
        exact Or.inr ⟨y, z, a1, a2, a5, b1.2, b2.2⟩
    · refine ⟨out, true, Ev.step (fun k => impl_propagate.l0.eq_2 ..) (Ev.pos hok (Ev.congr (fun k => by rw [hsc]) (Ev.now _))), ho, hs, hm, fun _ => ?_, fun h => by cases h⟩
      obtain ⟨c, h, e⟩ := scan_false l out hsc
      refine ⟨c, h, fun x hx => Classical.byContradiction fun q => ?_⟩
      have := (lft_mem (out := out) (c := c) hv ((hc c h).2 x hx).2).2 ⟨hx, q⟩
      rw [e] at this; simp at this
    · obtain ⟨c, h, e, q⟩ := scan_unit l out n hsc
      have hnc : n ∈ c := by have : n ∈ lft out c := by rw [e]; simp
                             exact (List.mem_filter.1 this).1
      have b1 := (lft_mem (out := out) (c := c) hv ((hc c h).2 n hnc).2).1 (by rw [e]; simp)
      have := (ho.snoc ((hc c h).2 n hnc) (fun hn => q ⟨n, hnc, hn⟩) b1.2).len
      rw [List.length_append, List.length_singleton] at this
      omega
  | succ d ih =>
    intro out hd ho hs hm
    have hok : impl_propagate.ok l out = true := by
      simp only [impl_propagate.ok, Bool.and_eq_true, decide_eq_true_eq, List.all_eq_true]
      exact ⟨⟨by omega, by omega⟩, fun c h => by have := (hc c h).len; omega⟩
    rcases hsc : impl_propagate.scan l out with _ | _ | n
    · refine ⟨out, false, Ev.step (fun k => impl_propagate.l0.eq_2 ..) (Ev.pos hok (Ev.congr (fun k => by rw [hsc]) (Ev.now _))), ho, hs, hm, (fun h => by cases h), fun _ c h => ?_⟩
      rcases scan_nothing l out hsc c h with h2 | ⟨y, z, s, e⟩
      · exact Or.inl h2
      · obtain ⟨a1, a2, a3, a4, a5⟩ := Dis.two (hc c h).1 e
        have b1 := (lft_mem (out := out) (c := c) hv ((hc c h).2 y a1).2).1 (by rw [e]; simp)
        have b2 := (lft_mem (out := out) (c := c) hv ((hc c h).2 z a2).2).1 (by rw [e]; simp)
        exact Or.inr ⟨y, z, a1, a2, a5, b1.2, b2.2⟩
    · refine ⟨out, true, Ev.step (fun k => impl_propagate.l0.eq_2 ..) (Ev.pos hok (Ev.congr (fun k => by rw [hsc]) (Ev.now _))), ho, hs, hm, fun _ => ?_, fun h => by cases h⟩
      obtain ⟨c, h, e⟩ := scan_false l out hsc
      refine ⟨c, h, fun x hx => Classical.byContradiction fun q => ?_⟩
      have := (lft_mem (out := out) (c := c) hv ((hc c h).2 x hx).2).2 ⟨hx, q⟩
      rw [e] at this; simp at this
    · obtain ⟨c, h, e, q⟩ := scan_unit l out n hsc
      have hnc : n ∈ c := by have : n ∈ lft out c := by rw [e]; simp
                             exact (List.mem_filter.1 this).1
      have b1 := (lft_mem (out := out) (c := c) hv ((hc c h).2 n hnc).2).1 (by rw [e]; simp)
      obtain ⟨r, fl, h1, h2⟩ := ih (out ++ [n]) (by rw [List.length_append, List.length_singleton]; omega) (ho.snoc ((hc c h).2 n hnc) (fun hn => q ⟨n, hnc, hn⟩) b1.2) (fun x hx => List.mem_append_left _ (hs x hx)) (fun m hh hg x hx => by
        rcases List.mem_append.1 hx with hx | hx
        · exact hm m hh hg x hx
        · rw [List.mem_singleton.1 hx]
          have hcm := List.all_eq_true.1 hh c h
          obtain ⟨y, hy, hyb⟩ := List.any_eq_true.1 hcm
          by_cases hyo : -y ∈ out
          · have := hm m hh hg (-y) hyo
            rw [litB_neg m y ((hc c h).2 y hy).1, hyb] at this
            cases this
          · have := (lft_mem (out := out) (c := c) hv ((hc c h).2 y hy).2).2 ⟨hy, hyo⟩
            rw [e] at this
            rw [← List.mem_singleton.1 this]; exact hyb)
      exact ⟨r, fl, Ev.step (fun k => impl_propagate.l0.eq_2 ..) (Ev.pos hok (Ev.congr (fun k => by rw [hsc]) h1)), h2⟩
theorem prop_ev (v : Nat) (hv : v ≤ 12) (l : List (List Int)) (hl : l.length ≤ 1048576) (hc : Cls v l) (given : List Int) (hg : Lits v given) : ∃ r fl, Ev (fun k => impl_propagate.f k l given) (r, fl) ∧ Prp v l given r fl := by
  have hlen := hg.len
  obtain ⟨r, fl, h1, h2⟩ := prop_loop v hv l hl hc given (v - given.length) given (by omega) hg (fun _ h => h) (fun _ _ h => h)
  exact ⟨r, fl, Ev.pos (by omega) h1, h2⟩
theorem learn_loop (l : List Int) (hl : l.length ≤ 1000) (hx : ∀ x, x ∈ l → -1000 ≤ x ∧ x ≤ 1000) : ∀ (d i : Nat) (acc : List Int), i + d = l.length → acc.length = i → Ev (fun k => impl_learn.l0 k acc l (l.length : Int) (i : Int)) (acc ++ (l.drop i).map (fun x => -x))
  | 0, i, acc, h, ha => by
    rw [List.drop_eq_nil_of_le (by omega), List.map_nil, List.append_nil]
    exact Ev.step (fun k => impl_learn.l0.eq_2 ..) (Ev.neg (by omega) (Ev.now _))
  | d + 1, i, acc, h, ha => by
    have hi : i < l.length := by omega
    have hr := hx l[i] (List.getElem_mem hi)
    refine Ev.step (fun k => impl_learn.l0.eq_2 ..) (Ev.pos (by omega) (Ev.pos (by omega) (Ev.pos (by omega) (Ev.pos (by omega) ?_))))
    rw [rd_nat l i hi, wrap_id (-l[i]) (by omega) (by omega), w1 i (by omega)]
    have := learn_loop l hl hx d (i + 1) (acc ++ [-l[i]]) (by omega) (by rw [List.length_append, List.length_singleton, ha])
    rw [List.drop_eq_getElem_cons hi, List.map_cons]
    rw [List.append_assoc] at this
    exact this
theorem learn_ev (l : List Int) (hl : l.length ≤ 1000) (hx : ∀ x, x ∈ l → -1000 ≤ x ∧ x ≤ 1000) : Ev (fun k => impl_learn.f k l) (l.map (fun x => -x)) := by
  have := learn_loop l hl hx l.length 0 [] (by omega) rfl
  rw [List.drop_zero, List.nil_append] at this
  exact this
theorem decide_loop (n : Nat) (hn : n ≤ 12) (l : List Int) (hl : l.length ≤ 1048576) : ∀ (d i : Nat), i + d = n + 1 → 1 ≤ i → ∃ v o, Ev (fun k => impl_decide.l0 k (n : Int) l (i : Int)) (v, o) ∧ (o = true → (1 ≤ v ∧ v ≤ (n : Int)) ∧ v ∉ l ∧ -v ∉ l) ∧ (o = false → ∀ j : Nat, i ≤ j → j ≤ n → (j : Int) ∈ l ∨ -(j : Int) ∈ l)
  | 0, i, h, h1 => ⟨0, false, Ev.step (fun k => impl_decide.l0.eq_2 ..) (Ev.neg (by omega) (Ev.now _)), (fun h => by cases h), fun _ j h2 h3 => by omega⟩
  | d + 1, i, h, h1 => by
    obtain ⟨v, o, e, e1, e2⟩ := decide_loop n hn l hl d (i + 1) (by omega) (by omega)
    rw [← w1 i (by omega)] at e
    by_cases c1 : (i : Int) ∈ l
    · refine ⟨v, o, Ev.step (fun k => impl_decide.l0.eq_2 ..) (Ev.pos (by omega) (Ev.bind (contI_ev l (i : Int) hl) (Ev.pos (decide_eq_true c1) e))), e1, fun ho j h2 h3 => ?_⟩
      rcases Nat.eq_or_lt_of_le h2 with rfl | h2
      · exact Or.inl c1
      · exact e2 ho j h2 h3
    · by_cases c2 : -(i : Int) ∈ l
      · refine ⟨v, o, Ev.step (fun k => impl_decide.l0.eq_2 ..) (Ev.pos (by omega) (Ev.bind (contI_ev l (i : Int) hl) (Ev.neg (by simpa using c1) (Ev.bind (contI_ev l (wrap64 (-(i : Int))) hl) (Ev.pos (by rw [wrap_id _ (by omega) (by omega)]; exact decide_eq_true c2) e))))), e1, fun ho j h2 h3 => ?_⟩
        rcases Nat.eq_or_lt_of_le h2 with rfl | h2
        · exact Or.inr c2
        · exact e2 ho j h2 h3
      · exact ⟨(i : Int), true, Ev.step (fun k => impl_decide.l0.eq_2 ..) (Ev.pos (by omega) (Ev.bind (contI_ev l (i : Int) hl) (Ev.neg (by simpa using c1) (Ev.bind (contI_ev l (wrap64 (-(i : Int))) hl) (Ev.neg (by rw [wrap_id _ (by omega) (by omega)]; simpa using c2) (Ev.now _)))))), fun _ => ⟨by omega, c1, c2⟩, fun h => by cases h⟩
theorem model_of (v : Nat) (hv : v ≤ 12) : ∀ (t s : List Int) (o : List Bool), Lits v (s ++ t) → o.length = v → (∀ x, x ∈ s → litB o x = true) → ∃ m, impl_solve.m0 t o = some m ∧ m.length = v ∧ ∀ x, x ∈ s ++ t → litB m x = true
  | [], s, o, h, ho, hs => ⟨o, rfl, ho, fun x hx => hs x (by rwa [List.append_nil] at hx)⟩
  | x :: t, s, o, h, ho, hs => by
    have hx := h.2 x (by simp)
    have ew : wrap64 (((x.natAbs : Nat) : Int) - 1) = ((x.natAbs - 1 : Nat) : Int) := by rw [wrap_id _ (by omega) (by omega)]; omega
    obtain ⟨m, h1, h2, h3⟩ := model_of v hv t (s ++ [x]) (o.set (x.natAbs - 1) (decide (0 < x))) (by rw [List.append_assoc]; exact h) (by rw [List.length_set]; exact ho) (fun y hy => by
      rcases List.mem_append.1 hy with hy | hy
      · have hy2 := h.2 y (by simp [hy])
        have hne : y.natAbs ≠ x.natAbs := by
          intro e
          have hn := (Dis.nodup _ h.1)
          rw [List.map_append, List.map_cons] at hn
          exact (List.nodup_append.1 hn).2.2 _ (List.mem_map_of_mem hy) _ (List.mem_cons_self ..) e
        have := hs y hy
        unfold litB at this ⊢
        rw [List.getD_eq_getElem?_getD, List.getElem?_set_ne (by omega), ← List.getD_eq_getElem?_getD]
        exact this
      · rw [List.mem_singleton.1 hy]
        unfold litB
        rw [List.getD_eq_getElem?_getD, List.getElem?_set_self (by omega), Option.getD_some]
        simp)
    refine ⟨m, ?_, h2, fun y hy => h3 y (by rw [List.append_assoc]; exact hy)⟩
    rw [impl_solve.m0, var_abs x (by omega) (by omega), Option.bind_some, ew, if_pos (by omega), if_pos (by omega), Int.toNat_natCast]
    exact h1
theorem holds_lits {v : Nat} {m : List Bool} {x : Int} (h : x ≠ 0) (hb : litB m (-x) = true) : litB m x = false := by
  rw [litB_neg m x h] at hb
  simpa using hb
structure Srch (v : Nat) (l : List (List Int)) (r : Bool × List Bool × List (List Int) × Bool) : Prop where
  yes : r.2.2.2 = true → r.1 = true → ∃ m : List Bool, m.length = v ∧ holdsB m l = true
  no : r.2.2.2 = true → r.1 = false → ∀ m : List Bool, holdsB m l = false
theorem solve_loop (v : Nat) (hv : v ≤ 12) (l : List (List Int)) (hl : l.length ≤ 1000) (hc : Cls v l) : ∀ (M : Nat) (d : List Int) (L : List (List Int)), (301 - L.length) * 14 + (12 - d.length) = M → L.length ≤ 300 → Lits v d → (∀ x, x ∈ d → 0 < x) → Cls v L → (∀ m : List Bool, holdsB m l = true → holdsB m L = true) →
    ∃ r, Ev (fun k => impl_solve.l0 k (v : Int) l d L) r ∧ Srch v l r := by
  intro M
  induction M using Nat.strongRecOn with
  | ind M ih =>
    intro d L hM hL hd hpos hcL hent
    have hdl := hd.len
    have hok : impl_solve.ok l d L = true := by
      simp only [impl_solve.ok, Bool.and_eq_true, decide_eq_true_eq]
      omega
    have hcall : Cls v (l ++ L) := fun c h => by
      rcases List.mem_append.1 h with h | h
      · exact hc c h
      · exact hcL c h
    have hall : ∀ m : List Bool, holdsB m l = true → holdsB m (l ++ L) = true := fun m hm => by
      have := hent m hm
      unfold holdsB at hm this ⊢
      rw [List.all_append, hm, this]; rfl
    obtain ⟨out, fl, hp, P⟩ := prop_ev v hv (l ++ L) (by rw [List.length_append]; omega) hcall d hd
    have hol := P.lits.len
    cases fl with
    | true =>
      have hle := learn_ev d (by omega) (fun x hx => by have := hd.2 x hx; omega)
      obtain ⟨c, hcm, hcn⟩ := P.bad rfl
      have hcl := hcall c hcm
      have key : ∀ m : List Bool, holdsB m l = true → (d.map (fun x => -x)).any (litB m) = true := by
        intro m hm
        apply Classical.byContradiction
        intro hq
        have hdt : ∀ x, x ∈ d → litB m x = true := fun x hx => by
          apply Classical.byContradiction
          intro hx2
          refine hq (List.any_eq_true.2 ⟨-x, List.mem_map.2 ⟨x, hx, rfl⟩, ?_⟩)
          rw [litB_neg m x (hd.2 x hx).1, Bool.eq_false_iff.mpr hx2]; rfl
        have hot := P.snd m (hall m hm) hdt
        obtain ⟨y, hy, hyb⟩ := List.any_eq_true.1 (List.all_eq_true.1 (hall m hm) c hcm)
        have := holds_lits (v := v) (hcl.2 y hy).1 (hot (-y) (hcn y hy))
        rw [hyb] at this; cases this
      have hneg : Lits v (d.map (fun x => -x)) := by
        refine ⟨fun j hj => ?_, fun x hx => ?_⟩
        · rw [List.length_map] at hj
          rw [List.getElem_map, ← List.map_take, Int.neg_neg]
          obtain ⟨q1, q2⟩ := hd.1 j hj
          refine ⟨fun h => ?_, fun h => ?_⟩
          · obtain ⟨y, hy, e⟩ := List.mem_map.1 h
            exact q1 (by rw [show d[j] = y by omega]; exact hy)
          · obtain ⟨y, hy, e⟩ := List.mem_map.1 h
            exact q2 (by rw [← e, Int.neg_neg]; exact hy)
        · obtain ⟨y, hy, rfl⟩ := List.mem_map.1 hx
          have := hd.2 y hy
          omega
      have hcL2 : Cls v (L ++ [d.map (fun x => -x)]) := fun c h => by
        rcases List.mem_append.1 h with h | h
        · exact hcL c h
        · rw [List.mem_singleton.1 h]; exact hneg
      have hent2 : ∀ m : List Bool, holdsB m l = true → holdsB m (L ++ [d.map (fun x => -x)]) = true := fun m hm => by
        have h1 := hent m hm
        unfold holdsB at h1 ⊢
        rw [List.all_append, h1, List.all_cons, key m hm]; rfl
      have hlen : (L ++ [d.map (fun x => -x)]).length = L.length + 1 := by rw [List.length_append, List.length_singleton]
      by_cases c3 : 300 < ((L ++ [d.map (fun x => -x)]).length : Int)
      · exact ⟨_, Ev.step (fun k => impl_solve.l0.eq_2 ..) (Ev.pos hok (Ev.bind hp (Ev.pos rfl (Ev.bind hle (Ev.pos c3 (Ev.now _)))))), ⟨(fun h => by cases h), (fun h => by cases h)⟩⟩
      · by_cases c4 : d.length = 0
        · refine ⟨_, Ev.step (fun k => impl_solve.l0.eq_2 ..) (Ev.pos hok (Ev.bind hp (Ev.pos rfl (Ev.bind hle (Ev.neg c3 (Ev.pos c4 (Ev.now _))))))), ⟨(fun _ h => by cases h), fun _ _ m => ?_⟩⟩
          have e : d = [] := List.eq_nil_of_length_eq_zero c4
          subst e
          apply Bool.eq_false_iff.mpr
          intro hm
          have := key m hm
          simp at this
        · have ew : (wrap64 ((d.length : Int) - 1)).toNat = d.length - 1 := by rw [wrap_id _ (by omega) (by omega)]; omega
          obtain ⟨r, h1, h2⟩ := ih ((301 - (L ++ [d.map (fun x => -x)]).length) * 14 + (12 - (d.take (d.length - 1)).length)) (by rw [hlen, List.length_take]; omega) (d.take (d.length - 1)) (L ++ [d.map (fun x => -x)]) rfl (by omega) (hd.take _) (fun x hx => hpos x (List.mem_of_mem_take hx)) hcL2 hent2
          rw [← ew] at h1
          exact ⟨r, Ev.step (fun k => impl_solve.l0.eq_2 ..) (Ev.pos hok (Ev.bind hp (Ev.pos rfl (Ev.bind hle (Ev.neg c3 (Ev.neg c4 h1)))))), h2⟩
    | false =>
      obtain ⟨w, o, hd1, hd2, hd3⟩ := decide_loop v hv out (by omega) v 1 (by omega) (by omega)
      cases o with
      | true =>
        obtain ⟨⟨w1_, w2_⟩, w3, w4⟩ := hd2 rfl
        have hsn : Lits v (d ++ [w]) := hd.snoc (by omega) (fun h => w3 (P.sub w h)) (fun h => w4 (P.sub (-w) h))
        have := hsn.len
        rw [List.length_append, List.length_singleton] at this
        obtain ⟨r, h1, h2⟩ := ih ((301 - L.length) * 14 + (12 - (d ++ [w]).length)) (by rw [List.length_append, List.length_singleton]; omega) (d ++ [w]) L rfl hL hsn (fun x hx => by
          rcases List.mem_append.1 hx with hx | hx
          · exact hpos x hx
          · rw [List.mem_singleton.1 hx]; omega) hcL hent
        exact ⟨r, Ev.step (fun k => impl_solve.l0.eq_2 ..) (Ev.pos hok (Ev.bind hp (Ev.neg (by simp) (Ev.bind hd1 (Ev.pos rfl h1))))), h2⟩
      | false =>
        obtain ⟨m, m1, m2, m3⟩ := model_of v hv out [] (List.replicate v false) (by rw [List.nil_append]; exact P.lits) (by rw [List.length_replicate]) (fun x hx => by simp at hx)
        rw [List.nil_append] at m3
        have full := hd3 rfl
        refine ⟨(true, m, L, true), Ev.step (fun k => impl_solve.l0.eq_2 ..) (Ev.pos hok (Ev.bind hp (Ev.neg (by simp) (Ev.bind hd1 (Ev.neg (by simp) (Ev.pos (by omega) (Ev.pos (by omega) (Ev.bindE (a := m) (by rw [Int.toNat_natCast]; exact m1) (Ev.now _))))))))), ⟨fun _ _ => ⟨m, m2, List.all_eq_true.2 fun c h => ?_⟩, fun _ h => by cases h⟩⟩
        have hcm : c ∈ l ++ L := List.mem_append_left _ h
        rcases P.fin rfl c hcm with ⟨x, h1, h2⟩ | ⟨y, z, h1, _, _, h2, _⟩
        · exact List.any_eq_true.2 ⟨x, h1, m3 x h2⟩
        · have hy := (hcall c hcm).2 y h1
          have hf := full y.natAbs (by omega) (by omega)
          have hyo : y ∈ out := by
            rcases Int.natAbs_eq y with e | e
            · rcases hf with hf | hf
              · rw [e]; exact hf
              · exact absurd (by rw [e]; exact hf) h2
            · rcases hf with hf | hf
              · exact absurd (by rw [e, Int.neg_neg]; exact hf) h2
              · rw [e]; exact hf
          exact List.any_eq_true.2 ⟨y, h1, m3 y hyo⟩
theorem solve_ev (v : Nat) (l : List (List Int)) (hl : Rows l) (hg : GoodC (v : Int) l = true) (hc : Cls v l) : ∃ r1 r2 r3 r4, Ev (fun k => impl_Solve.f k (v : Int) l) (r1, r2, r3, r4) ∧ Srch v l (r1, r2, r3, r4) := by
  obtain ⟨hv, hlit⟩ := GoodC_lits hg
  obtain ⟨⟨r1, r2, r3, r4⟩, h1, h2⟩ := solve_loop v hv l (by have := hlit.1; omega) hc _ [] [] rfl (by simp) ⟨fun j hj => by simp at hj, fun x hx => by simp at hx⟩ (fun x hx => by simp at hx) (fun c h => by simp at h) (fun m _ => rfl)
  exact ⟨r1, r2, r3, r4, Ev.bind (Ev.at_ (goodCI (v : Int) l hl) hg) (Ev.pos rfl (Ev.bind (a := (r1, r2, r3, r4)) h1 (Ev.now _))), h2⟩
theorem gC_lits {g : S69} {i v : Nat} (h : gok g i) (hi : i < v) : ∀ c, c ∈ gC g ((i + 1 : Nat) : Int) → Lits v c := by
  intro c hc
  obtain ⟨raw, h1, h2⟩ := List.mem_filterMap.1 hc
  have hr := rawC_lits h hi raw h1
  have := cln_shape (fun x => x ≠ 0 ∧ -(v : Int) ≤ x ∧ x ≤ (v : Int)) raw [] c h2 (fun j hj => by simp at hj) (fun x hx => by simp at hx) (fun x hx => hr.2 x hx)
  exact ⟨this.1, this.2.1⟩
theorem cFrom_mem : ∀ (l : List S69) (i : Nat) (c : List Int), c ∈ cFrom i l → ∃ j, ∃ h : j < l.length, c ∈ gC l[j] ((i + j + 1 : Nat) : Int)
  | [], i, c, hc => by simp [cFrom] at hc
  | g :: gs, i, c, hc => by
    rw [cFrom] at hc
    rcases List.mem_append.1 hc with h | h
    · exact ⟨0, by simp, h⟩
    · obtain ⟨j, hj, h2⟩ := cFrom_mem gs (i + 1) c h
      exact ⟨j + 1, by simp only [List.length_cons]; omega, by rw [show i + (j + 1) + 1 = i + 1 + j + 1 by omega]; exact h2⟩
theorem mem_cFrom : ∀ (l : List S69) (i j : Nat) (h : j < l.length) (c : List Int), c ∈ gC l[j] ((i + j + 1 : Nat) : Int) → c ∈ cFrom i l
  | [], i, j, h, c, hc => by simp at h
  | g :: gs, i, j, h, c, hc => by
    rw [cFrom]
    rcases j with _ | j
    · exact List.mem_append_left _ hc
    · refine List.mem_append_right _ (mem_cFrom gs (i + 1) j (by simp only [List.length_cons] at h; omega) c ?_)
      rw [show i + 1 + j + 1 = i + (j + 1) + 1 by omega]; exact hc
theorem cFrom_cls (g : List S69) (hok : ∀ j (h : j < g.length), gok g[j] j) : Cls g.length (cFrom 0 g) := fun c hc => by
  obtain ⟨j, hj, h⟩ := cFrom_mem g 0 c hc
  rw [Nat.zero_add] at h
  exact gC_lits (hok j hj) hj c h
theorem clausesM_cls (g : List S69) (hl : 1 ≤ g.length) (hok : ∀ j (h : j < g.length), gok g[j] j) : Cls g.length (clausesM g) := fun c hc => by
  unfold clausesM at hc
  rcases List.mem_append.1 hc with h | h
  · exact cFrom_cls g hok c h
  · rw [List.mem_singleton.1 h]
    refine ⟨fun j hj => ?_, fun x hx => by rw [List.mem_singleton.1 hx]; omega⟩
    rw [List.length_singleton] at hj
    have e : j = 0 := by omega
    subst e
    simp
theorem cFrom_goodC (g : List S69) (hl : 1 ≤ g.length ∧ g.length ≤ 12) (hok : ∀ j (h : j < g.length), gok g[j] j) : GoodC (g.length : Int) (cFrom 0 g) = true := by
  have h1 := cFrom_len g 0
  have h2 := cFrom_good g.length g 0 (by omega) (fun j h => by rw [Nat.zero_add]; exact hok j h)
  unfold GoodC
  simp only [Bool.and_eq_true, In_true, decide_eq_true_eq, List.all_eq_true]
  exact ⟨by omega, by omega, h2⟩
theorem cFrom_Rows (g : List S69) (hl : 1 ≤ g.length ∧ g.length ≤ 12) (hok : ∀ j (h : j < g.length), gok g[j] j) : Rows (cFrom 0 g) := by
  have h1 := cFrom_len g 0
  exact ⟨by omega, fun c hc => by have := (cFrom_cls g hok c hc).len; omega⟩
theorem getD_set_ne (m : List Bool) (i j : Nat) (b : Bool) (h : i ≠ j) : (m.set i b).getD j false = m.getD j false := by
  rw [List.getD_eq_getElem?_getD, List.getElem?_set_ne h, ← List.getD_eq_getElem?_getD]
theorem gval_set {g : S69} {i : Nat} (h : gok g i) (h1 : g.f0 ≠ 1) (m : List Bool) (b : Bool) : gval g [] (m.set i b) = gval g [] m := by
  have ha := gok_lt h h1
  unfold gval
  rw [if_neg h1, if_neg h1, getD_set_ne m i _ b (by omega)]
  by_cases h2 : g.f0 = 2
  · rw [if_pos h2, if_pos h2]
  · rw [if_neg h2, if_neg h2, getD_set_ne m i _ b (by have := gok_lt2 h h1 h2; omega)]
theorem litB_set (m : List Bool) (i : Nat) (b : Bool) (x : Int) (h : x.natAbs - 1 ≠ i) : litB (m.set i b) x = litB m x := by
  unfold litB
  rw [getD_set_ne m i _ b (fun e => h e.symm)]
theorem prop_full (g : List S69) (hl : 1 ≤ g.length ∧ g.length ≤ 12) (hok : ∀ j (h : j < g.length), gok g[j] j) (e : List Bool) (he : e.length = g.length) (hh : holdsB e (cFrom 0 g) = true) (given out : List Int) (P : Prp g.length (cFrom 0 g) given out false)
    (hgv : ∀ x, x ∈ given → litB e x = true) (hin : ∀ i (h : i < g.length), g[i].f0 = 1 → ((i + 1 : Nat) : Int) ∈ given ∨ -((i + 1 : Nat) : Int) ∈ given) : ∀ i, i < g.length → ((i + 1 : Nat) : Int) ∈ out ∨ -((i + 1 : Nat) : Int) ∈ out := by
  intro i
  induction i using Nat.strongRecOn with
  | ind i ih =>
    intro hi
    by_cases h1 : g[i].f0 = 1
    · rcases hin i hi h1 with h | h
      · exact Or.inl (P.sub _ h)
      · exact Or.inr (P.sub _ h)
    · have hot := P.snd e hh hgv
      have hsem : holdsB e (gC g[i] ((i + 1 : Nat) : Int)) = true := by
        refine List.all_eq_true.2 fun c hc => List.all_eq_true.1 hh c (mem_cFrom g 0 i hi c ?_)
        rw [Nat.zero_add]; exact hc
      have hag := hsem
      rw [gC_sem (hok i hi)] at hag
      unfold agree at hag
      rw [if_neg h1, beq_iff_eq] at hag
      have hno : holdsB (e.set i (!(e.getD i false))) (gC g[i] ((i + 1 : Nat) : Int)) = false := by
        rw [gC_sem (hok i hi)]
        unfold agree
        rw [if_neg h1, gval_set (hok i hi) h1, ← hag, List.getD_eq_getElem?_getD, List.getElem?_set_self (by omega), Option.getD_some]
        cases e.getD i false <;> rfl
      obtain ⟨c, hc, hcf⟩ := List.all_eq_false.1 hno
      have hcL := gC_lits (v := i + 1) (hok i hi) (by omega) c hc
      have hcm : c ∈ cFrom 0 g := mem_cFrom g 0 i hi c (by rw [Nat.zero_add]; exact hc)
      have hfalse : ∀ x, x ∈ c → litB (e.set i (!(e.getD i false))) x = false := fun x hx => by
        cases hb : litB (e.set i (!(e.getD i false))) x with
        | false => rfl
        | true => exact absurd (List.any_eq_true.2 ⟨x, hx, hb⟩) hcf
      have got : ∀ x, x ∈ c → (x ∈ out ∨ -x ∈ out) → x.natAbs = i + 1 → ((i + 1 : Nat) : Int) ∈ out ∨ -((i + 1 : Nat) : Int) ∈ out := by
        intro x hx ho hn
        rcases Int.natAbs_eq x with q | q
        · rw [hn] at q; rw [← q]; exact ho
        · rw [hn] at q
          rcases ho with ho | ho
          · exact Or.inr (by rw [← q]; exact ho)
          · exact Or.inl (by rw [q, Int.neg_neg] at ho; exact ho)
      have other : ∀ x, x ∈ c → x.natAbs ≠ i + 1 → -x ∈ out := by
        intro x hx hn
        have hb := hfalse x hx
        have hr := hcL.2 x hx
        rw [litB_set e i _ x (by omega)] at hb
        have hj := ih (x.natAbs - 1) (by omega) (by omega)
        rw [show x.natAbs - 1 + 1 = x.natAbs by omega] at hj
        have nx : x ∉ out := fun q => by rw [hot x q] at hb; cases hb
        rcases Int.natAbs_eq x with q | q
        · rcases hj with hj | hj
          · exact absurd (by rw [q]; exact hj) nx
          · rw [q]; exact hj
        · rcases hj with hj | hj
          · rw [q, Int.neg_neg]; exact hj
          · exact absurd (by rw [q]; exact hj) nx
      rcases P.fin rfl c hcm with ⟨x, hx, hxo⟩ | ⟨y, z, hy, hz, hne, hy2, hz2⟩
      · by_cases hn : x.natAbs = i + 1
        · exact got x hx (Or.inl hxo) hn
        · exact absurd (other x hx hn) (P.lits.no hxo)
      · by_cases hn : y.natAbs = i + 1
        · exact absurd (other z hz (fun q => hne (hn.trans q.symm))) hz2
        · exact absurd (other y hy hn) hy2
theorem full_length {v : Nat} {out : List Int} (h : Lits v out) (hf : ∀ i, i < v → ((i + 1 : Nat) : Int) ∈ out ∨ -((i + 1 : Nat) : Int) ∈ out) : out.length = v := by
  have h1 := h.len
  have h2 := full_len v (out.map Int.natAbs) (fun x hx hx2 => by
    rcases hf (x - 1) (by omega) with q | q
    · exact List.mem_map.2 ⟨_, q, by omega⟩
    · exact List.mem_map.2 ⟨_, q, by omega⟩)
  rw [List.length_map] at h2
  omega
theorem allIn_loop (v : Nat) (hv : v ≤ 12) (m : List Bool) (hm : m.length = v) (l : List Int) (hl : Lits v l) (ht : ∀ x, x ∈ l → litB m x = true) : ∀ (d i : Nat), i + d = l.length → Ev (fun k => laws_allIn.l0 k m l (l.length : Int) (i : Int)) true
  | 0, i, h => Ev.step (fun k => laws_allIn.l0.eq_2 ..) (Ev.neg (by omega) (Ev.now _))
  | d + 1, i, h => by
    have hi : i < l.length := by omega
    have hlen := hl.len
    have hx := hl.2 l[i] (List.getElem_mem hi)
    have hb := ht l[i] (List.getElem_mem hi)
    have ih := allIn_loop v hv m hm l hl ht d (i + 1) (by omega)
    rw [← w1 i (by omega)] at ih
    refine Ev.step (fun k => laws_allIn.l0.eq_2 ..) (Ev.pos (by omega) (Ev.pos (by omega) (Ev.pos (by omega) ?_)))
    rw [rd_nat l i hi]
    unfold litB at hb
    by_cases hp : l[i] > 0
    · rw [decide_eq_true hp, beq_iff_eq] at hb
      have ew : wrap64 (l[i] - 1) = ((l[i].natAbs - 1 : Nat) : Int) := by rw [wrap_id _ (by omega) (by omega)]; omega
      refine Ev.pos hp ?_
      rw [ew]
      exact Ev.pos (by omega) (Ev.pos (by omega) (Ev.pos (by rw [rdOf_getD, Int.toNat_natCast]; exact hb) (Ev.neg (by omega) ih)))
    · rw [decide_eq_false hp, beq_iff_eq] at hb
      have ew : wrap64 (wrap64 (-l[i]) - 1) = ((l[i].natAbs - 1 : Nat) : Int) := by rw [wrap_id (-l[i]) (by omega) (by omega), wrap_id _ (by omega) (by omega)]; omega
      refine Ev.neg hp (Ev.pos (by omega) ?_)
      rw [ew]
      exact Ev.pos (by omega) (Ev.pos (by omega) (Ev.neg (by rw [rdOf_getD, Int.toNat_natCast, hb]; simp) ih))
def sgn (e : List Bool) (x : Int) : Int := if rdOf false e x = true then x + 1 else -x - 1
theorem sgn_abs (e : List Bool) {x : Int} (h : 0 ≤ x) : (sgn e x).natAbs = x.toNat + 1 := by
  unfold sgn
  split <;> omega
theorem sgn_true (e : List Bool) {x : Int} (h : 0 ≤ x) : litB e (sgn e x) = true := by
  have ha := sgn_abs e h
  unfold litB
  rw [ha, Nat.add_sub_cancel, show e.getD x.toNat false = rdOf false e x from rfl]
  unfold sgn
  by_cases hb : rdOf false e x = true
  · rw [if_pos hb, hb, decide_eq_true (by omega)]; rfl
  · rw [if_neg hb, Bool.eq_false_iff.mpr hb, decide_eq_false (by omega)]; rfl
theorem inps_sorted : ∀ (l : List S69) (i : Nat), (inpsFrom i l).Pairwise (fun a b => a < b)
  | [], _ => List.Pairwise.nil
  | g :: gs, i => by
    unfold inpsFrom
    split
    · refine List.pairwise_cons.2 ⟨fun x hx => ?_, inps_sorted gs (i + 1)⟩
      have := inpsFrom_mem gs (i + 1) x hx
      omega
    · exact inps_sorted gs (i + 1)
theorem inps_has : ∀ (l : List S69) (i j : Nat) (h : j < l.length), l[j].f0 = 1 → ((i + j : Nat) : Int) ∈ inpsFrom i l
  | [], _, _, h, _ => by simp at h
  | g :: gs, i, j, h, h1 => by
    unfold inpsFrom
    rcases j with _ | j
    · rw [if_pos (show g.f0 = 1 from h1)]; simp
    · have := inps_has gs (i + 1) j (by simp only [List.length_cons] at h; omega) h1
      rw [show i + 1 + j = i + (j + 1) by omega] at this
      split
      · exact List.mem_cons_of_mem _ this
      · exact this
theorem Dis.of_nodup {c : List Int} (h : (c.map Int.natAbs).Nodup) : Dis c := by
  intro j hj
  rw [List.Nodup, List.pairwise_iff_getElem] at h
  have key : ∀ y, y ∈ c.take j → y.natAbs ≠ c[j].natAbs := by
    intro y hy
    obtain ⟨i, hi, rfl⟩ := List.mem_take_iff_getElem.1 hy
    have := h i j (by rw [List.length_map]; omega) (by rw [List.length_map]; exact hj) (by omega)
    rw [List.getElem_map, List.getElem_map] at this
    exact this
  exact ⟨fun q => key _ q rfl, fun q => key _ q (Int.natAbs_neg _)⟩
theorem given_lits (g : List S69) (e : List Bool) : Lits g.length ((inps g).map (sgn e)) := by
  refine ⟨Dis.of_nodup ?_, fun y hy => ?_⟩
  · rw [List.map_map, List.Nodup, List.pairwise_map]
    refine List.Pairwise.imp_of_mem (fun {a b} ha hb hab => ?_) (inps_sorted g 0)
    have h1 := inpsFrom_mem g 0 a ha
    have h2 := inpsFrom_mem g 0 b hb
    show (sgn e a).natAbs ≠ (sgn e b).natAbs
    rw [sgn_abs e (by omega), sgn_abs e (by omega)]
    omega
  · obtain ⟨x, hx, rfl⟩ := List.mem_map.1 hy
    have h1 := inpsFrom_mem g 0 x hx
    have := sgn_abs e (x := x) (by omega)
    omega
theorem prop_gates (g : List S69) (hl : 1 ≤ g.length ∧ g.length ≤ 12) (hok : ∀ j (h : j < g.length), gok g[j] j) (e : List Bool) (he : e.length = g.length) (hh : holdsB e (cFrom 0 g) = true) :
    ∃ out, Ev (fun k => impl_Propagate.f k (g.length : Int) (cFrom 0 g) ((inps g).map (sgn e))) (out, false, true) ∧ Lits g.length out ∧ out.length = g.length ∧ ∀ x, x ∈ out → litB e x = true := by
  have hgl := given_lits g e
  have hlen := hgl.len
  have hrows := cFrom_Rows g hl hok
  obtain ⟨out, fl, h1, P⟩ := prop_ev g.length hl.2 (cFrom 0 g) hrows.1 (cFrom_cls g hok) ((inps g).map (sgn e)) hgl
  have hgv : ∀ x, x ∈ (inps g).map (sgn e) → litB e x = true := fun y hy => by
    obtain ⟨x, hx, rfl⟩ := List.mem_map.1 hy
    exact sgn_true e (by have := inpsFrom_mem g 0 x hx; omega)
  have hot := P.snd e hh hgv
  have hfl : fl = false := by
    cases fl with
    | false => rfl
    | true =>
      obtain ⟨c, hc, hcn⟩ := P.bad rfl
      obtain ⟨y, hy, hyb⟩ := List.any_eq_true.1 (List.all_eq_true.1 hh c hc)
      have := holds_lits (v := g.length) ((cFrom_cls g hok c hc).2 y hy).1 (hot (-y) (hcn y hy))
      rw [hyb] at this; cases this
  subst hfl
  have hfull := prop_full g hl hok e he hh _ out P hgv (fun i hi h1 => by
    have hm := inps_has g 0 i hi h1
    rw [Nat.zero_add] at hm
    have hs := List.mem_map_of_mem (f := sgn e) hm
    unfold sgn at hs
    by_cases hb : rdOf false e (i : Int) = true
    · rw [if_pos hb] at hs; exact Or.inl hs
    · rw [if_neg hb] at hs
      exact Or.inr (by rw [show -((i + 1 : Nat) : Int) = -(i : Int) - 1 by omega]; exact hs))
  have hcl : clB (g.length : Int) ((inps g).map (sgn e)) = true := clF_intro _ _ (by omega) hgl.2 hgl.1 _ 0 (by omega)
  exact ⟨out, Ev.bind (Ev.at_ (goodCI _ _ hrows) (cFrom_goodC g hl hok)) (Ev.pos rfl (Ev.bind (Ev.at_ (isClause_ev (g.length : Int) (by omega) _ (by omega)) hcl) (Ev.pos rfl (Ev.bind (a := (out, false)) h1 (Ev.now _))))), P.lits, full_length P.lits hfull, hot⟩
theorem cntM_pos : ∀ (n : Nat) (F : List Bool → Bool) (m : List Bool), m.length = n → F m = true → 0 < cntM n F
  | 0, F, m, h, hF => by
    have e : m = [] := List.eq_nil_of_length_eq_zero h
    subst e
    unfold cntM; rw [hF]; decide
  | n + 1, F, m, h, hF => by
    have hne : m ≠ [] := by intro e; subst e; simp at h
    have hm := List.dropLast_concat_getLast hne
    unfold cntM
    cases hb : m.getLast hne with
    | false =>
      rw [hb] at hm
      have := cntM_pos n (fun m => F (m ++ [false])) m.dropLast (by rw [List.length_dropLast]; omega) (by rw [hm]; exact hF)
      omega
    | true =>
      rw [hb] at hm
      have := cntM_pos n (fun m => F (m ++ [true])) m.dropLast (by rw [List.length_dropLast]; omega) (by rw [hm]; exact hF)
      omega
theorem cntM_zero : ∀ (n : Nat) (F : List Bool → Bool), (∀ m, m.length = n → F m = false) → cntM n F = 0
  | 0, F, h => by unfold cntM; rw [h [] rfl]; rfl
  | n + 1, F, h => by
    unfold cntM
    rw [cntM_zero n _ (fun m hm => h (m ++ [false]) (by rw [List.length_append, hm]; rfl)), cntM_zero n _ (fun m hm => h (m ++ [true]) (by rw [List.length_append, hm]; rfl))]
theorem canBe_ev (l : List S69) (hl : 1 ≤ l.length ∧ l.length ≤ 12) (hok : ∀ j (h : j < l.length), gok l[j] j) : ∀ (d i : Nat), i + d = 2 ^ (inps l).length → ∃ v, Ev (fun k => impl_CanBe.l0 k l ((inps l).length : Int) ((2 ^ (inps l).length : Nat) : Int) (i : Int)) (decide (0 < cR (fun z => outM l (modelM (inps l).length (z : Int))) i d), v, true) := by
  have hlen := inps_len l
  have h2 : 2 ^ (inps l).length ≤ 2 ^ 12 := Nat.pow_le_pow_right (by decide) (by omega)
  intro d
  induction d with
  | zero =>
    intro i hi
    exact ⟨[], Ev.step (fun k => impl_CanBe.l0.eq_2 ..) (Ev.neg (by omega) (Ev.at_ (Ev.now _) (by simp [cR])))⟩
  | succ d ih =>
    intro i hi
    have hm := modelM_len (inps l).length (i : Int)
    have hc : cR (fun z => outM l (modelM (inps l).length (z : Int))) i (d + 1) = (outM l (modelM (inps l).length (i : Int))).toNat + cR (fun z => outM l (modelM (inps l).length (z : Int))) (i + 1) d := rfl
    by_cases h : outM l (modelM (inps l).length (i : Int)) = true
    · have ht : decide (0 < cR (fun z => outM l (modelM (inps l).length (z : Int))) i (d + 1)) = true := by rw [hc, h]; exact decide_eq_true (by simp only [Bool.toNat_true]; omega)
      rw [ht]
      exact ⟨modelM (inps l).length (i : Int), Ev.step (fun k => impl_CanBe.l0.eq_2 ..) (Ev.pos (by omega) (Ev.bind (impl_model_ev _ (by omega) _) (Ev.bind (impl_output_ev l _ (by omega) hok hm.symm) (Ev.pos h (Ev.now _)))))⟩
    · obtain ⟨v, hv⟩ := ih (i + 1) (by omega)
      rw [← w1 i (by omega)] at hv
      refine ⟨v, Ev.step (fun k => impl_CanBe.l0.eq_2 ..) (Ev.pos (by omega) (Ev.bind (impl_model_ev _ (by omega) _) (Ev.bind (impl_output_ev l _ (by omega) hok hm.symm) (Ev.neg h (Ev.at_ hv ?_)))))⟩
      rw [hc, Bool.eq_false_iff.mpr h]
      simp
theorem drawEvalGates_ok {l : List Int} (hl : Bytes l) : EvP (fun k => spec_DrawEvalGates.f k l) (fun r => r.1.length ≤ 100 ∧ r.2.length ≤ 1000) := by
  unfold spec_DrawEvalGates.f
  refine EvP.bind (gates_ok hl 0 0 (by omega) (by omega)) fun p hp => ?_
  obtain ⟨r, hs, hi, _⟩ := goodGates_both p.1 (by omega)
  have hin : EvP (fun k => spec_InputsOf.f k p.1) (fun r => r.1.length ≤ 100) := by
    unfold spec_InputsOf.f
    cases r with
    | false => exact ⟨_, Ev.bind hs (Ev.neg (by simp) (Ev.now _)), by simp⟩
    | true =>
      have := inps_len p.1
      exact ⟨_, Ev.bind hs (Ev.pos rfl (Ev.bind (spec_l8Inputs_ev p.1 (by omega)) (Ev.now _))), by show (inps p.1).length ≤ 100; omega⟩
  refine EvP.bind hin fun q hq => EvP.bindE (pick_ok hl _ _ 20 (by omega) (by omega)) fun u hu => EvP.bindE (pick_ok hl _ _ 256 (by omega) (by omega)) fun z hz => ?_
  have e1 : wrap64 (Int.tdiv u.1 19) = u.1 / 19 := by rw [Int.tdiv_eq_ediv_of_nonneg (by omega), wrap_id _ (by omega) (by omega)]
  have e2 : wrap64 ((q.1.length : Int) + wrap64 (Int.tdiv u.1 19)) = ((q.1.length + (u.1 / 19).toNat : Nat) : Int) := by rw [e1, wrap_id _ (by omega) (by omega)]; omega
  rw [e2]
  exact ⟨_, Ev.bind (spec_l4Model_ev _ (by omega) _) (Ev.now _), by show p.1.length ≤ 100 ∧ (modelM _ _).length ≤ 1000; rw [modelM_len]; omega⟩
theorem drawGateClauses_ok {l : List Int} (hl : Bytes l) : EvP (fun k => spec_DrawGateClauses.f k l) (fun r => r.1.length ≤ 100) := by
  unfold spec_DrawGateClauses.f
  exact EvP.bind (gates_ok hl 0 0 (by omega) (by omega)) fun p hp => EvP.bindE (pick_ok hl _ _ _ (by omega) (by omega)) fun u hu => EvP.now _ (by show p.1.length ≤ 100; omega)
theorem drawInputsBy_ok {l : List Int} (hl : Bytes l) : EvP (fun k => spec_DrawInputsBy.f k l) (fun r => r.1.length ≤ 100 ∧ r.2.length ≤ 1000) := by
  unfold spec_DrawInputsBy.f
  refine EvP.bind (gates_ok hl 0 0 (by omega) (by omega)) fun p hp => EvP.bindE (pick_ok hl _ _ 20 (by omega) (by omega)) fun u hu => EvP.bindE (pick_ok hl _ _ 256 (by omega) (by omega)) fun z hz => ?_
  have e1 : wrap64 (Int.tdiv u.1 19) = u.1 / 19 := by rw [Int.tdiv_eq_ediv_of_nonneg (by omega), wrap_id _ (by omega) (by omega)]
  have e2 : wrap64 ((p.1.length : Int) + wrap64 (Int.tdiv u.1 19)) = ((p.1.length + (u.1 / 19).toNat : Nat) : Int) := by rw [e1, wrap_id _ (by omega) (by omega)]; omega
  rw [e2]
  exact ⟨_, Ev.bind (spec_l4Model_ev _ (by omega) _) (Ev.now _), by show p.1.length ≤ 100 ∧ (modelM _ _).length ≤ 1000; rw [modelM_len]; omega⟩
theorem gateClauses_both (g : List S69) (hg : g.length ≤ 100) (a : Int) : ∃ (c : List (List Int)) (b : Bool), Ev (fun k => spec_GateClauses.f k g a) (c, b) ∧ Ev (fun k => impl_GateClauses.f k g a) (c, b) ∧ c.length ≤ 1000 ∧ ∀ r, r ∈ c → r.length ≤ 1000 := by
  obtain ⟨r, hgs, hgi, hok⟩ := goodGates_both g (by omega)
  unfold spec_GateClauses.f impl_GateClauses.f
  have em : wrap64 ((g.length : Int) - 1) = (g.length : Int) - 1 := wrap_id _ (by omega) (by omega)
  rw [em]
  cases r with
  | false => exact ⟨[], false, Ev.bind hgs (Ev.neg (by simp) (Ev.now _)), Ev.bind hgi (Ev.neg (by simp) (Ev.now _)), by simp, fun r hr => by simp at hr⟩
  | true =>
    obtain ⟨hlen, hok⟩ := hok rfl
    by_cases h : 0 ≤ a ∧ a < (g.length : Int)
    · obtain ⟨i, rfl⟩ : ∃ i : Nat, a = (i : Int) := ⟨a.toNat, by omega⟩
      have hi : i < g.length := by omega
      have hg := hok i hi (by omega)
      refine ⟨gC g[i] ((i + 1 : Nat) : Int), true, Ev.bind hgs (Ev.pos rfl (Ev.neg (by omega) (Ev.neg (by omega) (Ev.pos (by omega) (Ev.pos (by omega) ?_))))), Ev.bind hgi (Ev.pos rfl (Ev.bindE (impl_in_eq ..) (Ev.pos (In_true.2 (by omega)) (Ev.bind (gcI_ev g i hi hlen.2 hg) (Ev.now _))))), ?_, ?_⟩
      · rw [Gateb_nat g i hi]
        exact Ev.bind (gcS_ev g[i] i (by omega) hg) (Ev.now _)
      · have := gC_len g[i] ((i + 1 : Nat) : Int); omega
      · intro r hr
        have := gC_rows hg r hr; omega
    · refine ⟨[], false, Ev.bind hgs (Ev.pos rfl ?_), Ev.bind hgi (Ev.pos rfl (Ev.bindE (impl_in_eq ..) (Ev.neg (fun h' => h (by have := In_true.1 h'; omega)) (Ev.now _)))), by simp, fun r hr => by simp at hr⟩
      by_cases h0 : a < 0
      · exact Ev.pos h0 (Ev.now _)
      · exact Ev.neg h0 (Ev.pos (by omega) (Ev.now _))
theorem gates_tail {l1 : List Int} (hb : Bytes l1) : Ev (fun k => laws_FnGates.j4 k l1) true := by
  obtain ⟨⟨a, x⟩, ea, ha⟩ := drawGateClauses_ok hb
  obtain ⟨⟨b, m⟩, eb, hbm⟩ := drawInputsBy_ok hb
  obtain ⟨c, o, cs, ci, hc, hcr⟩ := gateClauses_both a ha x
  obtain ⟨⟨i, p⟩, is_, ii, hil⟩ := inputsBy_both b m (by have := hbm.1; simp only at this; omega) (by have := hbm.2; simp only at this; omega)
  refine Ev.step (fun k => laws_FnGates.j4.eq_2 ..) (Ev.bind ea (Ev.bind ci (Ev.bind cs (Ev.bind eb (Ev.bind ii (Ev.bind is_ (Ev.pos (by simp) (Ev.bind (sameRows_self c ⟨by omega, fun r hr => by have := hcr r hr; omega⟩) (Ev.pos rfl (Ev.pos (by simp) (Ev.bind (sameBools_self i hil) (Ev.now _))))))))))))
theorem gates_j3 {l1 : List Int} (hb : Bytes l1) (g : List S69) (hl : 1 ≤ g.length ∧ g.length ≤ 12) (hok : ∀ j (h : j < g.length), gok g[j] j) (hi : Ev (fun k => impl_GoodGates.f k g) true) : Ev (fun k => laws_FnGates.j3 k l1 g false) true := by
  have hlen := inps_len g
  have hp : 2 ^ (inps g).length ≤ 2 ^ 12 := Nat.pow_le_pow_right (by decide) (by omega)
  have c1 : Ev (fun k => impl_ClausesOf.f k g) (clausesM g, true) := by
    unfold impl_ClausesOf.f
    have h := coI_loop g hl.2 hok g.length 0 [] (by omega) (by simp)
    rw [List.drop_zero, List.nil_append] at h
    exact Ev.bind hi (Ev.pos rfl h)
  obtain ⟨v, hv⟩ := canBe_ev g hl hok (2 ^ (inps g).length) 0 (by omega)
  have c3 : Ev (fun k => impl_CanBe.f k g) (decide (0 < cR (fun z => outM g (modelM (inps g).length (z : Int))) 0 (2 ^ (inps g).length)), v, true) := by
    unfold impl_CanBe.f
    refine Ev.bind hi (Ev.pos rfl (Ev.bind (impl_inputs_ev g (by omega)) ?_))
    rw [shl_one _ (by omega)]
    exact hv
  obtain ⟨r1, r2, r3, r4, c5, S⟩ := solve_ev g.length (clausesM g) (clausesM_rows g hl hok) (clausesM_good g hl hok) (clausesM_cls g hl.1 hok)
  have ht := gates_tail hb
  refine Ev.step (fun k => laws_FnGates.j3.eq_2 ..) (Ev.neg (by simp) (Ev.bind c1 (Ev.bind c3 (Ev.bind c5 (Ev.pos rfl (Ev.pos rfl ?_))))))
  cases r4 with
  | false => exact Ev.neg (by simp) ht
  | true =>
    refine Ev.pos rfl (Ev.neg ?_ ht)
    rw [← tseitin_count g hl hok, cR_cntM g.length (fun m => holdsB m (clausesM g)) (by omega)]
    cases r1 with
    | true =>
      obtain ⟨m, hm, hh⟩ := S.yes rfl rfl
      rw [decide_eq_true (cntM_pos g.length (fun m => holdsB m (clausesM g)) m hm hh)]
      simp
    | false =>
      rw [cntM_zero g.length (fun m => holdsB m (clausesM g)) (fun m _ => S.no rfl rfl m)]
      simp
theorem law_l1 {l1 : List Int} (g : List S69) (ins e : List Bool) (all : List (List Int)) (hl : g.length ≤ 12) (hil : ins.length = (inps g).length) (hins : ∀ i (h : i < (inps g).length), ins.getD i false = rdOf false e (inps g)[i])
    (fin : Ev (fun k => laws_FnGates.l1 k l1 g ins e all ((inps g).map (sgn e)) true (inps g) ((inps g).length : Int) ((inps g).length : Int)) true) : ∀ (d i : Nat), i + d = (inps g).length → Ev (fun k => laws_FnGates.l1 k l1 g ins e all (((inps g).take i).map (sgn e)) true (inps g) ((inps g).length : Int) (i : Int)) true
  | 0, i, h => by
    have e1 : i = (inps g).length := by omega
    subst e1
    rw [List.take_length]; exact fin
  | d + 1, i, h => by
    have hi : i < (inps g).length := by omega
    have hlen := inps_len g
    have hx := inpsFrom_mem g 0 (inps g)[i] (List.getElem_mem hi)
    have ih := law_l1 (l1 := l1) g ins e all hl hil hins fin d (i + 1) (by omega)
    rw [List.take_succ_eq_append_getElem hi, List.map_append, List.map_cons, List.map_nil, ← w1 i (by omega)] at ih
    have hb := hins i hi
    have ht : (((inps g).take i).map (sgn e)).length < 17592186044416 := by rw [List.length_map, List.length_take]; omega
    refine Ev.step (fun k => laws_FnGates.l1.eq_2 ..) (Ev.pos (by omega) (Ev.pos (by omega) (Ev.pos (by omega) (Ev.pos (by omega) ?_))))
    rw [rd_nat (inps g) i hi, show rdOf false ins (i : Int) = ins.getD i false by rw [rdOf_getD, Int.toNat_natCast]]
    unfold sgn at ih
    by_cases hc : rdOf false e (inps g)[i] = true
    · rw [if_pos hc] at ih
      refine Ev.pos (by rw [hb]; exact hc) (Ev.pos ht ?_)
      rw [wrap_id ((inps g)[i] + 1) (by omega) (by omega)]
      exact ih
    · rw [if_neg hc] at ih
      refine Ev.neg (by rw [hb]; exact hc) (Ev.pos ht ?_)
      rw [wrap_id (-(inps g)[i]) (by omega) (by omega), wrap_id (-(inps g)[i] - 1) (by omega) (by omega)]
      exact ih
theorem law_l0 {l1 : List Int} (g : List S69) (ins e : List Bool) (hl : 1 ≤ g.length ∧ g.length ≤ 12) (hok : ∀ j (h : j < g.length), gok g[j] j) (hgi : Ev (fun k => impl_GoodGates.f k g) true)
    (fin : Ev (fun k => laws_FnGates.l0 k l1 g ins e (cFrom 0 g) (inps g) true (g.length : Int) (g.length : Int)) true) : ∀ (d i : Nat) (acc : List (List Int)), i + d = g.length → acc.length ≤ 4 * i → acc ++ cFrom i (g.drop i) = cFrom 0 g → Ev (fun k => laws_FnGates.l0 k l1 g ins e acc (inps g) true (g.length : Int) (i : Int)) true
  | 0, i, acc, h, ha, hc => by
    have e1 : i = g.length := by omega
    rw [List.drop_eq_nil_of_le (by omega), cFrom, List.append_nil] at hc
    subst hc
    rw [e1]; exact fin
  | d + 1, i, acc, h, ha, hc => by
    have hi : i < g.length := by omega
    have hlen := gC_len g[i] ((i + 1 : Nat) : Int)
    rw [List.drop_eq_getElem_cons hi, cFrom, ← List.append_assoc] at hc
    have ih := law_l0 (l1 := l1) g ins e hl hok hgi fin d (i + 1) (acc ++ gC g[i] ((i + 1 : Nat) : Int)) (by omega) (by rw [List.length_append]; omega) hc
    have hgc : Ev (fun k => impl_GateClauses.f k g (i : Int)) (gC g[i] ((i + 1 : Nat) : Int), true) := by
      unfold impl_GateClauses.f
      rw [wrap_id ((g.length : Int) - 1) (by omega) (by omega)]
      exact Ev.bind hgi (Ev.pos rfl (Ev.bindE (impl_in_eq ..) (Ev.pos (In_true.2 (by omega)) (Ev.bind (gcI_ev g i hi hl.2 (hok i hi)) (Ev.now _)))))
    refine Ev.step (fun k => laws_FnGates.l0.eq_2 ..) (Ev.pos (by omega) (Ev.bind hgc (Ev.pos rfl (Ev.pos ?_ ?_))))
    · show acc.length + (gC g[i] ((i + 1 : Nat) : Int)).length < 5864062014805
      omega
    · rw [w1 i (by omega)]; exact ih
theorem FnGates : laws_FnGates.Pure := by
  intro l0 l1 _ y0 hw0 _ y1 hw1
  refine Ev.rounds ?_
  unfold laws_FnGates.f
  by_cases hlen : wrap64 ((l0.length : Int) + (l1.length : Int)) > 1048576
  · exact Ev.pos hlen (Ev.now _)
  refine Ev.neg hlen ?_
  obtain ⟨s0, s1⟩ := small_of hlen y0 y1
  have hb0 := bytes_of ⟨y0, hw0⟩ s0
  have hb1 := bytes_of ⟨y1, hw1⟩ s1
  obtain ⟨⟨g, ins⟩, ed, hg, hinl⟩ := drawEvalGates_ok hb0
  simp only at hg hinl
  have htail := gates_tail hb1
  obtain ⟨r, hgs, hgi, hgo⟩ := goodGates_both g (by omega)
  have bad : ∀ q, Ev (fun k => impl_EvalGates.f k g ins) ([], false) → Ev (fun k => spec_EvalGates.f k g ins) ([], false) → q = true → Ev (fun k => (spec_DrawEvalGates.f k l0).bind fun bt544 => ((impl_EvalGates.f k bt544.1 bt544.2).bind fun bt550 => ((spec_EvalGates.f k bt544.1 bt544.2).bind fun bt554 => (if (bt550.2 != bt554.2) = true then (laws_FnGates.j0 k l1 bt544.1 bt544.2 bt550.1 bt550.2 true) else ((laws_sameBools.f k bt550.1 bt554.1).bind fun t558 => (laws_FnGates.j0 k l1 bt544.1 bt544.2 bt550.1 bt550.2 (!t558))))))) q := by
    intro q c1 c2 hq
    subst hq
    refine Ev.bind ed (Ev.bind c1 (Ev.bind c2 (Ev.neg (by simp) (Ev.bind (sameBools_self [] (by simp)) ?_))))
    exact Ev.step (fun k => laws_FnGates.j0.eq_2 ..) (Ev.neg (by simp) (Ev.neg (by simp) htail))
  cases r with
  | false =>
    exact bad true (by unfold impl_EvalGates.f; exact Ev.bind hgi (Ev.neg (by simp) (Ev.now _))) (by unfold spec_EvalGates.f; exact Ev.bind hgs (Ev.neg (by simp) (Ev.now _))) rfl
  | true =>
    obtain ⟨hl, hok0⟩ := hgo rfl
    have hok : ∀ j (h : j < g.length), gok g[j] j := fun j hj => hok0 j hj (by omega)
    have hil := inps_len g
    by_cases hn : (inps g).length = ins.length
    · have c1 : Ev (fun k => impl_EvalGates.f k g ins) (evalM g ins, true) := by
        unfold impl_EvalGates.f
        exact Ev.bind hgi (Ev.pos rfl (Ev.bind (impl_inputs_ev g (by omega)) (Ev.pos (by omega) (Ev.bind (impl_eval_ev g ins (by omega) hok hn) (Ev.now _)))))
      have c2 : Ev (fun k => spec_EvalGates.f k g ins) (evalM g ins, true) := by
        unfold spec_EvalGates.f
        exact Ev.bind hgs (Ev.pos rfl (Ev.bind (spec_l8Inputs_ev g (by omega)) (Ev.pos (by omega) (Ev.bind (spec_l8Eval_ev g ins (by omega) hok hn) (Ev.now _)))))
      have he := evalM_len g ins
      have ce := cons_eval g hok g.length (Nat.le_refl _) ins (by rw [List.take_length]; exact hn.symm)
      rw [List.take_length] at ce
      obtain ⟨ce1, ce2⟩ := ce
      have hh : holdsB (evalM g ins) (cFrom 0 g) = true := by
        rw [cFrom_sem _ g 0 (fun j h => by rw [Nat.zero_add]; exact hok j h)]; exact ce1
      obtain ⟨out, p1, p2, p3, p4⟩ := prop_gates g hl hok (evalM g ins) he hh
      have c5 : Ev (fun k => impl_InputsOf.f k g) (inps g, true) := by
        unfold impl_InputsOf.f
        exact Ev.bind hgi (Ev.pos rfl (Ev.bind (impl_inputs_ev g (by omega)) (Ev.now _)))
      have hall : Ev (fun k => laws_allIn.f k out (evalM g ins)) true := allIn_loop g.length hl.2 (evalM g ins) he out p2 p4 out.length 0 (by omega)
      have fin1 : Ev (fun k => laws_FnGates.l1 k l1 g ins (evalM g ins) (cFrom 0 g) ((inps g).map (sgn (evalM g ins))) true (inps g) ((inps g).length : Int) ((inps g).length : Int)) true :=
        Ev.step (fun k => laws_FnGates.l1.eq_2 ..) (Ev.neg (by omega) (Ev.bind p1 (Ev.pos rfl (Ev.pos rfl (Ev.neg (by simp) (Ev.pos (by show (out.length : Int) = (g.length : Int); omega) (Ev.bind hall (gates_j3 hb1 g hl hok hgi))))))))
      have hl1 := law_l1 (l1 := l1) g ins (evalM g ins) (cFrom 0 g) hl.2 hn.symm (fun i h => by
        have h2 : i < ins.length := by omega
        rw [List.getD_eq_getElem?_getD, List.getElem?_eq_getElem h2, Option.getD_some]
        have := congrArg (fun q => q[i]?) ce2
        simp only [List.getElem?_map, List.getElem?_eq_getElem h, List.getElem?_eq_getElem h2, Option.map_some] at this
        exact (Option.some.inj this).symm) fin1 (inps g).length 0 (by omega)
      have fin0 : Ev (fun k => laws_FnGates.l0 k l1 g ins (evalM g ins) (cFrom 0 g) (inps g) true (g.length : Int) (g.length : Int)) true :=
        Ev.step (fun k => laws_FnGates.l0.eq_2 ..) (Ev.neg (by omega) hl1)
      have hl0 := law_l0 (l1 := l1) g ins (evalM g ins) hl hok hgi fin0 g.length 0 [] (by omega) (by simp) (by rw [List.drop_zero, List.nil_append])
      refine Ev.bind ed (Ev.bind c1 (Ev.bind c2 (Ev.neg (by simp) (Ev.bind (sameBools_self _ (by show (evalM g ins).length ≤ 1048576; omega)) ?_))))
      exact Ev.step (fun k => laws_FnGates.j0.eq_2 ..) (Ev.neg (by simp) (Ev.pos rfl (Ev.bind c5 hl0)))
    · refine bad true ?_ ?_ rfl
      · unfold impl_EvalGates.f
        exact Ev.bind hgi (Ev.pos rfl (Ev.bind (impl_inputs_ev g (by omega)) (Ev.neg (by omega) (Ev.now _))))
      · unfold spec_EvalGates.f
        exact Ev.bind hgs (Ev.pos rfl (Ev.bind (spec_l8Inputs_ev g (by omega)) (Ev.neg (by omega) (Ev.now _))))
end Go.Proofs.Ytgahidilhjijiaa.Pure
