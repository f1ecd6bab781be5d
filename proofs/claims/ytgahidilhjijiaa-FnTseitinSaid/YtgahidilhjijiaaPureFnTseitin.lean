import Derived.Test.YtgahidilhjijiaaPGTx1
import Derived.Test.YtgahidilhjijiaaPGTx10
import Derived.Test.YtgahidilhjijiaaPGTx11
import Derived.Test.YtgahidilhjijiaaPGTx12
import Derived.Test.YtgahidilhjijiaaPGTx2
import Derived.Test.YtgahidilhjijiaaPGTx3
import Derived.Test.YtgahidilhjijiaaPGTx4
import Derived.Test.YtgahidilhjijiaaPGTx5
import Derived.Test.YtgahidilhjijiaaPGTx6
import Derived.Test.YtgahidilhjijiaaPGTx7
import Derived.Test.YtgahidilhjijiaaPGTx8
import Derived.Test.YtgahidilhjijiaaPGTx9
namespace Go.Proofs.Ytgahidilhjijiaa.Pure
open Go Go.RowKit Go.Proofs.Ytgahidilhjijiaa.PGT Go.Proofs.YtgahidilhjijiaaW.PrintWords Go.Proofs.YtgahidilhjijiaaW.PrintLast Go.Proofs.YtgahidilhjijiaaW.PrintMore
set_option linter.unusedVariables false
set_option linter.unusedSimpArgs false
def In (a lo hi : Int) : Bool := decide (lo ≤ a) && decide (a ≤ hi)
theorem In_true {a lo hi : Int} : In a lo hi = true ↔ lo ≤ a ∧ a ≤ hi := by simp [In]
theorem In_ite {a lo hi : Int} : (if a ≥ lo then some (decide (a ≤ hi)) else some false) = some (In a lo hi) := by
  unfold In; by_cases h : lo ≤ a <;> simp [h]
theorem spec_l1In_eq (a b c : Int) : spec_l1In.f a b c = some (In a b c) := by unfold spec_l1In.f; exact In_ite
theorem impl_in_eq (a b c : Int) : impl_in.f a b c = some (In a b c) := by unfold impl_in.f; exact In_ite
def andn (a b : Nat) : Nat := a ^^^ (a &&& b)
theorem wrap_i64_nat (n : Nat) (h : n < 9223372036854775808) : IntKind.i64.wrap (n : Int) = n := by
  rw [IntKind.wrap_i64]; omega
theorem ofInt_nat (n : Nat) : BitVec.ofInt 64 (n : Int) = BitVec.ofNat 64 n := BitVec.ofInt_natCast 64 n
theorem bits_and (a b : Nat) (ha : a < 9223372036854775808) (hb : b < 9223372036854775808) : Go.bits .and .i64 a b = ((a &&& b : Nat) : Int) := by
  show IntKind.i64.wrap (((BitVec.ofInt 64 (a : Int)) &&& (BitVec.ofInt 64 (b : Int))).toNat : Int) = _
  rw [ofInt_nat, ofInt_nat, BitVec.toNat_and, BitVec.toNat_ofNat, BitVec.toNat_ofNat, Nat.mod_eq_of_lt (by omega), Nat.mod_eq_of_lt (by omega)]
  exact wrap_i64_nat _ (Nat.lt_of_le_of_lt Nat.and_le_left ha)
theorem Ev.pos {α : Type} {c : Prop} [Decidable c] {A B : Nat → Option α} {r : α} (h : c) (e : Ev A r) : Ev (fun k => if c then A k else B k) r := Ev.congr (fun _ => if_pos h) e
theorem Ev.neg {α : Type} {c : Prop} [Decidable c] {A B : Nat → Option α} {r : α} (h : ¬ c) (e : Ev B r) : Ev (fun k => if c then A k else B k) r := Ev.congr (fun _ => if_neg h) e
theorem Ev.bindE {α β : Type} {g : Option α} {f : Nat → α → Option β} {a : α} {r : β} (h : g = some a) (k : Ev (fun n => f n a) r) : Ev (fun n => g.bind (f n)) r := by subst h; exact k
theorem Ev.at_ {α : Type} {g : Nat → Option α} {r r' : α} (h : Ev g r) (e : r = r') : Ev g r' := e ▸ h
theorem Ev.one {α : Type} {g : Nat → Option α} {r r' : α} (h : Ev g r) (h' : Ev g r') : r = r' := by
  obtain ⟨K, h⟩ := h; obtain ⟨K', h'⟩ := h'
  have a := h (max K K') (by omega); have b := h' (max K K') (by omega)
  rw [a] at b; exact Option.some.inj b
def Both {α : Type} (P : α → Prop) (g f : Nat → Option α) : Prop := ∃ r, Ev g r ∧ Ev f r ∧ P r
theorem Both.now {α : Type} {P : α → Prop} (r : α) (h : P r) : Both P (fun _ => some r) (fun _ => some r) := ⟨r, Ev.now r, Ev.now r, h⟩
theorem Both.mono {α : Type} {P Q : α → Prop} {g f : Nat → Option α} (h : Both P g f) (hq : ∀ r, P r → Q r) : Both Q g f := by obtain ⟨r, a, b, c⟩ := h; exact ⟨r, a, b, hq r c⟩
theorem Both.congrL {α : Type} {P : α → Prop} {g g' f : Nat → Option α} (e : ∀ k, g k = g' k) (h : Both P g' f) : Both P g f := by obtain ⟨r, a, b, c⟩ := h; exact ⟨r, a.congr e, b, c⟩
theorem Both.congrR {α : Type} {P : α → Prop} {g f f' : Nat → Option α} (e : ∀ k, f k = f' k) (h : Both P g f') : Both P g f := by obtain ⟨r, a, b, c⟩ := h; exact ⟨r, a, b.congr e, c⟩
theorem Both.posL {α : Type} {P : α → Prop} {c : Prop} [Decidable c] {A B f : Nat → Option α} (h : c) (e : Both P A f) : Both P (fun k => if c then A k else B k) f := e.congrL (fun _ => if_pos h)
theorem Both.negL {α : Type} {P : α → Prop} {c : Prop} [Decidable c] {A B f : Nat → Option α} (h : ¬ c) (e : Both P B f) : Both P (fun k => if c then A k else B k) f := e.congrL (fun _ => if_neg h)
theorem Both.posR {α : Type} {P : α → Prop} {c : Prop} [Decidable c] {A B f : Nat → Option α} (h : c) (e : Both P f A) : Both P f (fun k => if c then A k else B k) := e.congrR (fun _ => if_pos h)
theorem Both.negR {α : Type} {P : α → Prop} {c : Prop} [Decidable c] {A B f : Nat → Option α} (h : ¬ c) (e : Both P f B) : Both P f (fun k => if c then A k else B k) := e.congrR (fun _ => if_neg h)
theorem Both.ite {α : Type} {P : α → Prop} {c : Prop} [Decidable c] {A B A' B' : Nat → Option α} (h1 : c → Both P A A') (h2 : ¬ c → Both P B B') : Both P (fun k => if c then A k else B k) (fun k => if c then A' k else B' k) := by
  by_cases h : c
  · exact ((h1 h).posL h).posR h
  · exact ((h2 h).negL h).negR h
theorem Both.stepL {α : Type} {P : α → Prop} {g g' f : Nat → Option α} (e : ∀ k, g (k + 1) = g' k) (h : Both P g' f) : Both P g f := by obtain ⟨r, a, b, c⟩ := h; exact ⟨r, a.step e, b, c⟩
theorem Both.stepR {α : Type} {P : α → Prop} {g f f' : Nat → Option α} (e : ∀ k, f (k + 1) = f' k) (h : Both P g f') : Both P g f := by obtain ⟨r, a, b, c⟩ := h; exact ⟨r, a, b.step e, c⟩
theorem Both.bindL {α β : Type} {P : β → Prop} {g : Nat → Option α} {F : Nat → α → Option β} {f : Nat → Option β} {a : α} (h : Ev g a) (e : Both P (fun k => F k a) f) : Both P (fun k => (g k).bind (F k)) f := by obtain ⟨r, x, y, c⟩ := e; exact ⟨r, Ev.bind h x, y, c⟩
theorem Both.bindR {α β : Type} {P : β → Prop} {g : Nat → Option α} {F : Nat → α → Option β} {f : Nat → Option β} {a : α} (h : Ev g a) (e : Both P f (fun k => F k a)) : Both P f (fun k => (g k).bind (F k)) := by obtain ⟨r, x, y, c⟩ := e; exact ⟨r, x, Ev.bind h y, c⟩
theorem Both.bindEL {α β : Type} {P : β → Prop} {g : Option α} {F : Nat → α → Option β} {f : Nat → Option β} {a : α} (h : g = some a) (e : Both P (fun k => F k a) f) : Both P (fun k => g.bind (F k)) f := by subst h; exact e
theorem Both.bindER {α β : Type} {P : β → Prop} {g : Option α} {F : Nat → α → Option β} {f : Nat → Option β} {a : α} (h : g = some a) (e : Both P f (fun k => F k a)) : Both P f (fun k => g.bind (F k)) := by subst h; exact e
theorem Both.bind2 {α β : Type} {P : β → Prop} {Q : α → Prop} {g g' : Nat → Option α} {F F' : Nat → α → Option β} (h : Both Q g g') (e : ∀ a, Q a → Both P (fun k => F k a) (fun k => F' k a)) : Both P (fun k => (g k).bind (F k)) (fun k => (g' k).bind (F' k)) := by
  obtain ⟨a, x, y, c⟩ := h
  exact ((e a c).bindL x).bindR y
theorem w1 (i : Nat) (h : i < 4611686018427387904) : wrap64 ((i : Int) + 1) = ((i + 1 : Nat) : Int) := by unfold wrap64; omega
theorem wrap_id (x : Int) (h0 : -9223372036854775808 ≤ x) (h1 : x ≤ 9223372036854775807) : wrap64 x = x := by unfold wrap64; omega
theorem rd_nat (l : List Int) (i : Nat) (h : i < l.length) : rd l (i : Int) = l[i] := by unfold rd; simp [List.getD, h]
theorem rdOf_nat {α : Type} (d : α) (l : List α) (i : Nat) (h : i < l.length) : rdOf d l (i : Int) = l[i] := by unfold rdOf; simp [List.getD, h]
theorem set_take {α : Type} (l : List α) (i : Nat) (v : α) (h : i < l.length) : (l.set i v).take (i + 1) = l.take i ++ [v] := by
  rw [List.take_succ_eq_append_getElem (by simpa using h), List.take_set_of_le (Nat.le_refl i)]; simp
theorem u64_nat (i : Nat) (h : i < 9223372036854775808) : IntKind.u64.wrap (i : Int) = (i : Int) := by
  have : IntKind.u64.wrap (i : Int) = (i : Int) % 18446744073709551616 := by simp [IntKind.wrap, IntKind.bits, IntKind.signed]
  rw [this]; omega
theorem shl_one (n : Nat) (h : n ≤ 60) : shl .i64 1 (n : Int) = ((2 ^ n : Nat) : Int) := by
  have hb : IntKind.i64.bits = 64 := rfl
  unfold shl
  rw [Int.toNat_natCast, hb, Nat.min_eq_left (by omega), Int.one_mul]
  have h1 : 2 ^ n ≤ 2 ^ 60 := Nat.pow_le_pow_right (by decide) h
  have h2 : ((2 : Int) ^ n) = ((2 ^ n : Nat) : Int) := by rw [Int.natCast_pow]; rfl
  rw [h2]; exact wrap_i64_nat _ (by omega)
def bitM (x : Int) (i : Nat) : Bool := Go.bits .and .i64 (shr .i64 x (i : Int)) 1 == 1
def modelM (n : Nat) (x : Int) : List Bool := (List.range n).map (fun i => bitM x i)
theorem modelM_len (n : Nat) (x : Int) : (modelM n x).length = n := by simp [modelM]
theorem spec_l4Model_loop (n : Nat) (hn : n ≤ 1048576) (x : Int) : ∀ (d i : Nat) (acc : List Bool), i + d = n → acc.length = n → acc.take i = (modelM n x).take i → Ev (fun k => spec_l4Model.l0 k x acc (n : Int) (i : Int)) (modelM n x)
  | 0, i, acc, hi, ha, ht => by
    refine Ev.step (fun k => spec_l4Model.l0.eq_2 ..) (Ev.neg (by omega) ?_)
    rw [List.take_of_length_le (by omega), List.take_of_length_le (by rw [modelM_len]; omega)] at ht
    rw [ht]; exact Ev.now _
  | d + 1, i, acc, hi, ha, ht => by
    refine Ev.step (fun k => spec_l4Model.l0.eq_2 ..) ?_
    rw [u64_nat i (by omega), w1 i (by omega), Int.toNat_natCast]
    refine Ev.pos (by omega) <| Ev.pos (by omega) <| Ev.pos (by omega) <| Ev.pos (by omega) ?_
    refine spec_l4Model_loop n hn x d (i + 1) _ (by omega) (by simpa using ha) ?_
    rw [set_take _ _ _ (by omega), ht, List.take_succ_eq_append_getElem (l := modelM n x) (by rw [modelM_len]; omega)]
    simp [modelM, bitM]
theorem spec_l4Model_ev (n : Nat) (hn : n ≤ 1048576) (x : Int) : Ev (fun k => spec_l4Model.f k (n : Int) x) (modelM n x) := by
  unfold spec_l4Model.f
  refine Ev.pos (by omega) <| Ev.pos (by omega) <| Ev.bindE rfl ?_
  rw [Int.toNat_natCast, List.length_replicate]
  exact spec_l4Model_loop n hn x n 0 _ (by omega) (by simp) (by simp)
theorem impl_model_loop (n : Nat) (hn : n ≤ 1048576) (x : Int) : ∀ (d i : Nat) (acc : List Bool), i + d = n → acc.length = n → acc.take i = (modelM n x).take i → Ev (fun k => impl_model.l0 k x acc (n : Int) (i : Int)) (modelM n x)
  | 0, i, acc, hi, ha, ht => by
    refine Ev.step (fun k => impl_model.l0.eq_2 ..) (Ev.neg (by omega) ?_)
    rw [List.take_of_length_le (by omega), List.take_of_length_le (by rw [modelM_len]; omega)] at ht
    rw [ht]; exact Ev.now _
  | d + 1, i, acc, hi, ha, ht => by
    refine Ev.step (fun k => impl_model.l0.eq_2 ..) ?_
    rw [w1 i (by omega), Int.toNat_natCast]
    refine Ev.pos (by omega) <| Ev.pos (by omega) <| Ev.pos (by omega) ?_
    refine impl_model_loop n hn x d (i + 1) _ (by omega) (by simpa using ha) ?_
    rw [set_take _ _ _ (by omega), ht, List.take_succ_eq_append_getElem (l := modelM n x) (by rw [modelM_len]; omega)]
    simp [modelM, bitM]
theorem impl_model_ev (n : Nat) (hn : n ≤ 1048576) (x : Int) : Ev (fun k => impl_model.f k (n : Int) x) (modelM n x) := by
  unfold impl_model.f
  refine Ev.pos (by omega) <| Ev.pos (by omega) <| Ev.bindE rfl ?_
  rw [Int.toNat_natCast, List.length_replicate]
  exact impl_model_loop n hn x n 0 _ (by omega) (by simp) (by simp)
def GoodK (v m : Int) : Bool := In v 0 65535 && In m 0 65535 && (Go.bits .and .i64 v m == 0)
def GoodS (lo hi : Int) : Bool := In lo 0 65535 && In hi 0 65535 && decide (lo ≤ hi)
def JoinK (a b c d : Int) : Int × Int := (Go.bits .andNot .i64 a (Go.bits .or .i64 (Go.bits .or .i64 b d) (Go.bits .xor .i64 a c)), Go.bits .or .i64 (Go.bits .or .i64 b d) (Go.bits .xor .i64 a c))
def JoinS (a b c d : Int) : Int × Int := (mn a c, mx b d)
def MeetS (a b c d : Int) : Int × Int × Bool := if mx a c > mn b d then (0, 0, false) else (mx a c, mn b d, true)
def LessS (a b c d : Int) : Int × Int × Int × Int × Bool := if a ≥ d then (0, 0, 0, 0, false) else (a, mn b (wrap64 (d - 1)), mx c (wrap64 (a + 1)), d, true)
theorem Gateb_nat (l : List S69) (i : Nat) (h : i < l.length) : rd_T69 l (i : Int) = l[i] := by unfold rd_T69; simp [List.getD, h]
def gok (g : S69) (j : Nat) : Prop := (g.f0 = 1 ∧ g.f1 = 0 ∧ g.f2 = 0) ∨ (g.f0 = 2 ∧ (0 ≤ g.f1 ∧ g.f1 < j) ∧ g.f2 = 0) ∨ ((g.f0 = 3 ∨ g.f0 = 4 ∨ g.f0 = 5) ∧ (0 ≤ g.f1 ∧ g.f1 < j) ∧ (0 ≤ g.f2 ∧ g.f2 < j))
def GatesOk (l : List S69) (i : Nat) (r : Bool) : Prop := r = true → (1 ≤ l.length ∧ l.length ≤ 12) ∧ ∀ j (h : j < l.length), i ≤ j → gok l[j] j
theorem goodGates_loop (l : List S69) (hl : l.length ≤ 1099511627776) : ∀ (d i : Nat), i + d = l.length → Both (GatesOk l i) (fun k => spec_GoodGates.l0 k l l (l.length : Int) (i : Int)) (fun k => impl_GoodGates.l0 k l l (l.length : Int) (i : Int))
  | 0, i, hi => by
    refine Both.stepL (fun k => spec_GoodGates.l0.eq_2 ..) (Both.stepR (fun k => impl_GoodGates.l0.eq_2 ..) ?_)
    refine Both.negL (by omega) (Both.negR (by omega) (Both.bindEL (spec_l1In_eq ..) (Both.bindER (impl_in_eq ..) (Both.now _ ?_))))
    intro hr
    have := In_true.1 hr
    exact ⟨by omega, fun j hj hij => by omega⟩
  | d + 1, i, hi => by
    have ih := goodGates_loop l hl d (i + 1) (by omega)
    have hil : i < l.length := by omega
    refine Both.stepL (fun k => spec_GoodGates.l0.eq_2 ..) (Both.stepR (fun k => impl_GoodGates.l0.eq_2 ..) ?_)
    refine Both.posL (by omega) (Both.posL (by omega) (Both.posL (by omega) ?_))
    refine Both.posR (by omega) (Both.posR (by omega) (Both.posR (by omega) ?_))
    refine Both.bindEL (spec_l1In_eq ..) (Both.bindEL (spec_l1In_eq ..) ?_)
    rw [Gateb_nat l i hil, w1 i (by omega)]
    have em : wrap64 ((i : Int) - 1) = (i : Int) - 1 := wrap_id _ (by omega) (by omega)
    rw [em]
    have fin : ∀ r, GatesOk l (i + 1) r → gok l[i] i → GatesOk l i r := by
      intro r h h1 hr
      obtain ⟨a, c⟩ := h hr
      refine ⟨a, fun j hj hij => ?_⟩
      by_cases e : i = j
      · subst e; exact h1
      · exact c j hj (by omega)
    have bad : Both (GatesOk l i) (fun _ => some false) (fun _ => some false) := Both.now _ (fun h => by cases h)
    have two : (l[i].f0 = 3 ∨ l[i].f0 = 4 ∨ l[i].f0 = 5) → Both (GatesOk l i)
        (fun k => spec_GoodGates.j1 k l (In l[i].f1 0 ((i : Int) - 1)) (In l[i].f2 0 ((i : Int) - 1)) l (l.length : Int) (i : Int) true)
        (fun k => impl_GoodGates.j1 k l (i : Int) false l (l.length : Int) (i : Int) true l[i].f0 l[i].f1 l[i].f2) := by
      intro hk
      refine Both.stepL (fun k => spec_GoodGates.j1.eq_2 ..) (Both.stepR (fun k => impl_GoodGates.j1.eq_2 ..) ?_)
      rw [em, w1 i (by omega)]
      refine Both.posL rfl (Both.posR rfl (Both.bindER (impl_in_eq ..) (Both.ite (fun h1 => Both.bindER (impl_in_eq ..) (Both.ite (fun h2 => ih.mono (fun r hr => fin r hr ?_)) (fun _ => bad))) (fun _ => bad))))
      have a := In_true.1 h1; have b := In_true.1 h2
      exact .inr (.inr ⟨hk, by omega, by omega⟩)
    refine Both.ite (fun h1 => Both.ite (fun h2 => Both.ite (fun h3 => ih.mono (fun r hr => fin r hr (.inl ⟨h1, h2, h3⟩))) (fun _ => bad)) (fun _ => bad)) (fun n1 => ?_)
    refine Both.ite (fun h1 => Both.bindER (impl_in_eq ..) (Both.ite (fun h2 => Both.ite (fun h3 => ih.mono (fun r hr => fin r hr (.inr (.inl ⟨h1, by have := In_true.1 h2; omega, h3⟩)))) (fun _ => bad)) (fun _ => bad))) (fun n2 => ?_)
    refine Both.ite (fun h1 => ?_) (fun n3 => Both.ite (fun h1 => ?_) (fun n4 => ?_))
    · rw [show (l[i].f0 == 3) = true by simpa using h1]; exact two (.inl h1)
    · rw [show (l[i].f0 == 4) = true by simpa using h1]; exact two (.inr (.inl h1))
    · by_cases h1 : l[i].f0 = 5
      · rw [show (l[i].f0 == 5) = true by simpa using h1]; exact two (.inr (.inr h1))
      · rw [show (l[i].f0 == 5) = false by simpa using h1]
        refine Both.stepL (fun k => spec_GoodGates.j1.eq_2 ..) (Both.stepR (fun k => impl_GoodGates.j1.eq_2 ..) ?_)
        exact Both.negL (by simp) (Both.negR (by simp) (Both.negR (by simp) bad))
theorem goodGates_both (l : List S69) (hl : l.length ≤ 1099511627776) : Both (GatesOk l 0) (fun k => spec_GoodGates.f k l) (fun k => impl_GoodGates.f k l) := by
  unfold spec_GoodGates.f impl_GoodGates.f
  exact goodGates_loop l hl l.length 0 (by omega)
def inpsFrom : Nat → List S69 → List Int
  | _, [] => []
  | i, g :: gs => if g.f0 = 1 then (i : Int) :: inpsFrom (i + 1) gs else inpsFrom (i + 1) gs
def inps (l : List S69) : List Int := inpsFrom 0 l
theorem inpsFrom_len : ∀ (l : List S69) (i : Nat), (inpsFrom i l).length ≤ l.length
  | [], _ => by simp [inpsFrom]
  | g :: gs, i => by
    have := inpsFrom_len gs (i + 1)
    unfold inpsFrom; split <;> simp <;> omega
theorem inpsFrom_mem : ∀ (l : List S69) (i : Nat) (x : Int), x ∈ inpsFrom i l → (i : Int) ≤ x ∧ x < ((i + l.length : Nat) : Int)
  | [], _, _, h => by simp [inpsFrom] at h
  | g :: gs, i, x, h => by
    have ih := inpsFrom_mem gs (i + 1) x
    have hl : (g :: gs).length = gs.length + 1 := rfl
    unfold inpsFrom at h
    split at h
    · rcases List.mem_cons.1 h with h | h
      · omega
      · have := ih h; omega
    · have := ih h; omega
theorem inps_len (l : List S69) : (inps l).length ≤ l.length := inpsFrom_len l 0
theorem spec_l8Inputs_loop (l : List S69) (hl : l.length ≤ 1099511627776) : ∀ (d i : Nat) (acc : List Int), i + d = l.length → acc.length ≤ i → Ev (fun k => spec_l8Inputs.l0 k acc l (l.length : Int) (i : Int)) (acc ++ inpsFrom i (l.drop i))
  | 0, i, acc, hi, ha => by
    refine Ev.step (fun k => spec_l8Inputs.l0.eq_2 ..) (Ev.neg (by omega) ?_)
    rw [List.drop_eq_nil_of_le (by omega)]; simp only [inpsFrom, List.append_nil]; exact Ev.now _
  | d + 1, i, acc, hi, ha => by
    have hil : i < l.length := by omega
    refine Ev.step (fun k => spec_l8Inputs.l0.eq_2 ..) (Ev.pos (by omega) (Ev.pos (by omega) (Ev.pos (by omega) ?_)))
    rw [Gateb_nat l i hil, w1 i (by omega), List.drop_eq_getElem_cons hil]
    unfold inpsFrom
    by_cases h : l[i].f0 = 1
    · rw [if_pos h]
      refine Ev.pos h (Ev.pos (by omega) ?_)
      have := spec_l8Inputs_loop l hl d (i + 1) (acc ++ [(i : Int)]) (by omega) (by simp; omega)
      rw [List.append_assoc] at this; exact this
    · rw [if_neg h]
      exact Ev.neg h (spec_l8Inputs_loop l hl d (i + 1) acc (by omega) (by omega))
theorem spec_l8Inputs_ev (l : List S69) (hl : l.length ≤ 1099511627776) : Ev (fun k => spec_l8Inputs.f k l) (inps l) := by
  unfold spec_l8Inputs.f
  exact spec_l8Inputs_loop l hl l.length 0 [] (by omega) (by simp)
theorem impl_inputs_loop (l : List S69) (hl : l.length ≤ 1099511627776) : ∀ (d i : Nat) (acc : List Int), i + d = l.length → acc.length ≤ i → Ev (fun k => impl_inputs.l0 k acc l (l.length : Int) (i : Int)) (acc ++ inpsFrom i (l.drop i))
  | 0, i, acc, hi, ha => by
    refine Ev.step (fun k => impl_inputs.l0.eq_2 ..) (Ev.neg (by omega) ?_)
    rw [List.drop_eq_nil_of_le (by omega)]; simp only [inpsFrom, List.append_nil]; exact Ev.now _
  | d + 1, i, acc, hi, ha => by
    have hil : i < l.length := by omega
    refine Ev.step (fun k => impl_inputs.l0.eq_2 ..) (Ev.pos (by omega) (Ev.pos (by omega) (Ev.pos (by omega) ?_)))
    rw [Gateb_nat l i hil, w1 i (by omega), List.drop_eq_getElem_cons hil]
    unfold inpsFrom
    by_cases h : l[i].f0 = 1
    · rw [if_pos h]
      refine Ev.pos h (Ev.pos (by omega) ?_)
      have := impl_inputs_loop l hl d (i + 1) (acc ++ [(i : Int)]) (by omega) (by simp; omega)
      rw [List.append_assoc] at this; exact this
    · rw [if_neg h]
      exact Ev.neg h (impl_inputs_loop l hl d (i + 1) acc (by omega) (by omega))
theorem impl_inputs_ev (l : List S69) (hl : l.length ≤ 1099511627776) : Ev (fun k => impl_inputs.f k l) (inps l) := by
  unfold impl_inputs.f
  exact impl_inputs_loop l hl l.length 0 [] (by omega) (by simp)
theorem impl_InputsBy_loop (mo : List Bool) (hm : mo.length ≤ 1099511627776) (xs : List Int) (hx : ∀ x ∈ xs, 0 ≤ x ∧ x < (mo.length : Int)) (hl : xs.length ≤ 1099511627776) : ∀ (d i : Nat) (acc : List Bool), i + d = xs.length → acc.length ≤ i → Ev (fun k => impl_InputsBy.l0 k mo acc xs (xs.length : Int) (i : Int)) (acc ++ (xs.drop i).map (fun x => rdOf false mo x), true)
  | 0, i, acc, hi, ha => by
    refine Ev.step (fun k => impl_InputsBy.l0.eq_2 ..) (Ev.neg (by omega) ?_)
    rw [List.drop_eq_nil_of_le (by omega)]; simp only [List.map_nil, List.append_nil]; exact Ev.now _
  | d + 1, i, acc, hi, ha => by
    have hil : i < xs.length := by omega
    have hxi := hx xs[i] (List.getElem_mem hil)
    refine Ev.step (fun k => impl_InputsBy.l0.eq_2 ..) (Ev.pos (by omega) (Ev.pos (by omega) (Ev.pos (by omega) ?_)))
    rw [rd_nat xs i hil, w1 i (by omega), List.drop_eq_getElem_cons hil]
    refine Ev.pos hxi.1 (Ev.pos hxi.2 (Ev.pos (by omega) ?_))
    have := impl_InputsBy_loop mo hm xs hx hl d (i + 1) (acc ++ [rdOf false mo xs[i]]) (by omega) (by simp; omega)
    rw [List.append_assoc] at this; exact this
def gval (g : S69) (ins acc : List Bool) : Bool :=
  if g.f0 = 1 then ins.getD 0 false
  else if g.f0 = 2 then !(acc.getD g.f1.toNat false)
  else if g.f0 = 3 then acc.getD g.f1.toNat false && acc.getD g.f2.toNat false
  else if g.f0 = 4 then acc.getD g.f1.toNat false || acc.getD g.f2.toNat false
  else acc.getD g.f1.toNat false != acc.getD g.f2.toNat false
def evalFrom : List S69 → List Bool → List Bool → List Bool
  | [], _, acc => acc
  | g :: gs, ins, acc => evalFrom gs (if g.f0 = 1 then ins.drop 1 else ins) (acc ++ [gval g ins acc])
def evalM (l : List S69) (ins : List Bool) : List Bool := evalFrom l ins []
theorem evalFrom_len : ∀ (l : List S69) (ins acc : List Bool), (evalFrom l ins acc).length = acc.length + l.length
  | [], ins, acc => by simp [evalFrom]
  | g :: gs, ins, acc => by unfold evalFrom; rw [evalFrom_len gs]; simp; omega
theorem evalM_len (l : List S69) (ins : List Bool) : (evalM l ins).length = l.length := by unfold evalM; rw [evalFrom_len]; simp
theorem rdOf_getD {α : Type} (d : α) (l : List α) (x : Int) : rdOf d l x = l.getD x.toNat d := rfl
theorem spec_l8Eval_loop (l : List S69) (ins : List Bool) (hl : l.length ≤ 1099511627776) (hok : ∀ j (h : j < l.length), gok l[j] j) : ∀ (d i nx : Nat) (acc : List Bool), i + d = l.length → acc.length = i → nx ≤ i → nx + (inpsFrom i (l.drop i)).length = ins.length →
    Ev (fun k => spec_l8Eval.l0 k ins acc (nx : Int) l (l.length : Int) (i : Int)) (evalFrom (l.drop i) (ins.drop nx) acc)
  | 0, i, nx, acc, hi, ha, hnx, hn => by
    refine Ev.step (fun k => spec_l8Eval.l0.eq_2 ..) (Ev.neg (by omega) ?_)
    rw [List.drop_eq_nil_of_le (by omega)]; unfold evalFrom; exact Ev.now _
  | d + 1, i, nx, acc, hi, ha, hnx, hn => by
    have hil : i < l.length := by omega
    have hg := hok i hil
    refine Ev.step (fun k => spec_l8Eval.l0.eq_2 ..) (Ev.pos (by omega) <| Ev.pos (by omega) <| Ev.pos (by omega) ?_)
    rw [List.drop_eq_getElem_cons hil] at hn
    rw [Gateb_nat l i hil, w1 i (by omega), List.drop_eq_getElem_cons hil]
    unfold evalFrom
    have ih := fun nx' acc' h1 h2 h3 => spec_l8Eval_loop l ins hl hok d (i + 1) nx' acc' (by omega) h1 h2 h3
    unfold inpsFrom at hn
    rcases hg with ⟨h0, _, _⟩ | ⟨h0, h1, _⟩ | ⟨h0, h1, h2⟩
    · rw [if_pos h0] at hn
      rw [if_pos h0, List.drop_drop]
      simp only [List.length_cons] at hn
      refine Ev.pos h0 <| Ev.pos (by omega) <| Ev.pos (by omega) <| Ev.pos (by omega) ?_
      rw [w1 nx (by omega)]
      refine Ev.at_ (ih (nx + 1) _ (by simp [ha]) (by omega) (by omega)) ?_
      congr 2; unfold gval; rw [if_pos h0, rdOf_nat _ _ _ (by omega)]; simp [List.getD, show nx < ins.length by omega]
    · rw [if_neg (by omega)] at hn
      rw [if_neg (by omega)]
      refine Ev.neg (by omega) <| Ev.pos h0 <| Ev.pos (by omega) <| Ev.pos (by omega) <| Ev.pos (by omega) ?_
      refine Ev.at_ (ih nx _ (by simp [ha]) (by omega) hn) ?_
      congr 2; unfold gval; rw [if_neg (by omega), if_pos h0, rdOf_getD]
    · rw [if_neg (by omega)] at hn
      rw [if_neg (by omega)]
      refine Ev.neg (by omega) <| Ev.neg (by omega) ?_
      have fin : ∀ b, b = gval l[i] (ins.drop nx) acc → Ev (fun k => if acc.length < 140737488355328 then spec_l8Eval.l0 k ins (acc ++ [b]) (nx : Int) l (l.length : Int) ((i + 1 : Nat) : Int) else none) (evalFrom (l.drop (i + 1)) (ins.drop nx) (acc ++ [gval l[i] (ins.drop nx) acc])) := by
        intro b hb
        refine Ev.pos (by omega) ?_
        rw [hb]
        exact ih nx _ (by simp [ha]) (by omega) hn
      have gv : gval l[i] (ins.drop nx) acc = if l[i].f0 = 3 then acc.getD l[i].f1.toNat false && acc.getD l[i].f2.toNat false
        else if l[i].f0 = 4 then acc.getD l[i].f1.toNat false || acc.getD l[i].f2.toNat false
        else acc.getD l[i].f1.toNat false != acc.getD l[i].f2.toNat false := by unfold gval; rw [if_neg (by omega), if_neg (by omega)]
      rw [gv] at fin
      rw [gv]
      simp only [rdOf_getD]
      rcases h0 with h0 | h0 | h0
      · simp only [if_pos h0] at fin ⊢
        refine Ev.pos (by omega) <| Ev.pos (by omega) ?_
        by_cases e : acc.getD l[i].f1.toNat false = true
        · exact Ev.pos e <| Ev.pos (by omega) <| Ev.pos (by omega) (fin _ (by rw [e]; rfl))
        · have e' : acc.getD l[i].f1.toNat false = false := by simpa using e
          exact Ev.neg e (fin _ (by rw [e']; rfl))
      · simp only [if_neg (show ¬ l[i].f0 = 3 by omega), if_pos h0] at fin ⊢
        refine Ev.pos (by omega) <| Ev.pos (by omega) ?_
        by_cases e : acc.getD l[i].f1.toNat false = true
        · exact Ev.pos e (fin _ (by rw [e]; rfl))
        · have e' : acc.getD l[i].f1.toNat false = false := by simpa using e
          exact Ev.neg e <| Ev.pos (by omega) <| Ev.pos (by omega) (fin _ (by rw [e']; rfl))
      · simp only [if_neg (show ¬ l[i].f0 = 3 by omega), if_neg (show ¬ l[i].f0 = 4 by omega)] at fin ⊢
        refine Ev.pos (by omega) <| Ev.pos (by omega) <| Ev.pos (by omega) <| Ev.pos (by omega) (fin _ rfl)
theorem spec_l8Eval_ev (l : List S69) (ins : List Bool) (hl : l.length ≤ 1099511627776) (hok : ∀ j (h : j < l.length), gok l[j] j) (hn : (inps l).length = ins.length) : Ev (fun k => spec_l8Eval.f k l ins) (evalM l ins) := by
  unfold spec_l8Eval.f
  exact spec_l8Eval_loop l ins hl hok l.length 0 0 [] (by omega) rfl (by omega) (by simpa [inps] using hn)
theorem impl_eval_loop (l : List S69) (hl : l.length ≤ 1099511627776) (hok : ∀ j (h : j < l.length), gok l[j] j) : ∀ (d i : Nat) (ins acc : List Bool), i + d = l.length → acc.length = i → (inpsFrom i (l.drop i)).length = ins.length →
    Ev (fun k => impl_eval.l0 k ins acc l (l.length : Int) (i : Int)) (evalFrom (l.drop i) ins acc)
  | 0, i, ins, acc, hi, ha, hn => by
    refine Ev.step (fun k => impl_eval.l0.eq_2 ..) (Ev.neg (by omega) ?_)
    rw [List.drop_eq_nil_of_le (by omega)]; unfold evalFrom; exact Ev.now _
  | d + 1, i, ins, acc, hi, ha, hn => by
    have hil : i < l.length := by omega
    have hg := hok i hil
    refine Ev.step (fun k => impl_eval.l0.eq_2 ..) (Ev.pos (by omega) <| Ev.pos (by omega) <| Ev.pos (by omega) ?_)
    rw [List.drop_eq_getElem_cons hil] at hn
    rw [Gateb_nat l i hil, w1 i (by omega), List.drop_eq_getElem_cons hil]
    unfold evalFrom
    have ih := fun ins' acc' h1 h2 => impl_eval_loop l hl hok d (i + 1) ins' acc' (by omega) h1 h2
    unfold inpsFrom at hn
    rcases hg with ⟨h0, _, _⟩ | ⟨h0, h1, _⟩ | ⟨h0, h1, h2⟩
    · rw [if_pos h0] at hn
      rw [if_pos h0]
      simp only [List.length_cons] at hn
      refine Ev.pos h0 <| Ev.pos (by omega) <| Ev.pos (by omega) <| Ev.pos (by omega) ?_
      refine Ev.at_ (ih (ins.drop 1) _ (by simp [ha]) (by rw [List.length_drop]; omega)) ?_
      congr 2; unfold gval; rw [if_pos h0]; rfl
    · rw [if_neg (by omega)] at hn
      rw [if_neg (by omega)]
      refine Ev.neg (by omega) <| Ev.pos h0 <| Ev.pos (by omega) <| Ev.pos (by omega) <| Ev.pos (by omega) ?_
      refine Ev.at_ (ih ins _ (by simp [ha]) hn) ?_
      congr 2; unfold gval; rw [if_neg (by omega), if_pos h0, rdOf_getD]
    · rw [if_neg (by omega)] at hn
      rw [if_neg (by omega)]
      refine Ev.neg (by omega) <| Ev.neg (by omega) ?_
      have fin : ∀ b, b = gval l[i] ins acc → Ev (fun k => if acc.length < 140737488355328 then impl_eval.l0 k ins (acc ++ [b]) l (l.length : Int) ((i + 1 : Nat) : Int) else none) (evalFrom (l.drop (i + 1)) ins (acc ++ [gval l[i] ins acc])) := by
        intro b hb
        refine Ev.pos (by omega) ?_
        rw [hb]
        exact ih ins _ (by simp [ha]) hn
      have gv : gval l[i] ins acc = if l[i].f0 = 3 then acc.getD l[i].f1.toNat false && acc.getD l[i].f2.toNat false
        else if l[i].f0 = 4 then acc.getD l[i].f1.toNat false || acc.getD l[i].f2.toNat false
        else acc.getD l[i].f1.toNat false != acc.getD l[i].f2.toNat false := by unfold gval; rw [if_neg (by omega), if_neg (by omega)]
      rw [gv] at fin
      rw [gv]
      simp only [rdOf_getD]
      rcases h0 with h0 | h0 | h0
      · simp only [if_pos h0] at fin ⊢
        refine Ev.pos (by omega) <| Ev.pos (by omega) ?_
        by_cases e : acc.getD l[i].f1.toNat false = true
        · exact Ev.pos e <| Ev.pos (by omega) <| Ev.pos (by omega) (fin _ (by rw [e]; rfl))
        · have e' : acc.getD l[i].f1.toNat false = false := by simpa using e
          exact Ev.neg e (fin _ (by rw [e']; rfl))
      · simp only [if_neg (show ¬ l[i].f0 = 3 by omega), if_pos h0] at fin ⊢
        refine Ev.pos (by omega) <| Ev.pos (by omega) ?_
        by_cases e : acc.getD l[i].f1.toNat false = true
        · exact Ev.pos e (fin _ (by rw [e]; rfl))
        · have e' : acc.getD l[i].f1.toNat false = false := by simpa using e
          exact Ev.neg e <| Ev.pos (by omega) <| Ev.pos (by omega) (fin _ (by rw [e']; rfl))
      · simp only [if_neg (show ¬ l[i].f0 = 3 by omega), if_neg (show ¬ l[i].f0 = 4 by omega)] at fin ⊢
        refine Ev.pos h0 <| Ev.pos (by omega) <| Ev.pos (by omega) <| Ev.pos (by omega) <| Ev.pos (by omega) (fin _ rfl)
theorem impl_eval_ev (l : List S69) (ins : List Bool) (hl : l.length ≤ 1099511627776) (hok : ∀ j (h : j < l.length), gok l[j] j) (hn : (inps l).length = ins.length) : Ev (fun k => impl_eval.f k l ins) (evalM l ins) := by
  unfold impl_eval.f
  exact impl_eval_loop l hl hok l.length 0 ins [] (by omega) rfl (by simpa [inps] using hn)
def outM (l : List S69) (ins : List Bool) : Bool := rdOf false (evalM l ins) ((l.length : Int) - 1)
theorem impl_output_ev (l : List S69) (ins : List Bool) (hl : 1 ≤ l.length ∧ l.length ≤ 1099511627776) (hok : ∀ j (h : j < l.length), gok l[j] j) (hn : (inps l).length = ins.length) : Ev (fun k => impl_output.f k l ins) (outM l ins) := by
  unfold impl_output.f
  refine Ev.bind (impl_eval_ev l ins (by omega) hok hn) ?_
  rw [wrap_id _ (by omega) (by omega)]
  exact Ev.pos (by omega) <| Ev.pos (by rw [evalM_len]; omega) (Ev.now _)
theorem always_loop (a b : List S69) (ha : 1 ≤ a.length ∧ a.length ≤ 12) (hb : 1 ≤ b.length ∧ b.length ≤ 12) (hoka : ∀ j (h : j < a.length), gok a[j] j) (hokb : ∀ j (h : j < b.length), gok b[j] j) (hab : (inps a).length = (inps b).length) : ∀ (d i : Nat), i + d = 2 ^ (inps a).length → Both (fun _ => True) (fun k => spec_AlwaysSame.l0 k a b ((inps a).length : Int) (i : Int)) (fun k => impl_AlwaysSame.l0 k a b ((inps a).length : Int) ((2 ^ (inps a).length : Nat) : Int) (i : Int)) := by
  have hlen := inps_len a
  have h2 : 2 ^ (inps a).length ≤ 2 ^ 12 := Nat.pow_le_pow_right (by decide) (by omega)
  intro d
  induction d with
  | zero =>
    intro i hi
    refine Both.stepL (fun k => spec_AlwaysSame.l0.eq_2 ..) (Both.stepR (fun k => impl_AlwaysSame.l0.eq_2 ..) ?_)
    rw [u64_nat _ (by omega), shl_one _ (by omega)]
    exact Both.posL (by omega) <| Both.negL (by omega) <| Both.negR (by omega) <| Both.now _ trivial
  | succ d ih =>
    intro i hi
    refine Both.stepL (fun k => spec_AlwaysSame.l0.eq_2 ..) (Both.stepR (fun k => impl_AlwaysSame.l0.eq_2 ..) ?_)
    rw [u64_nat _ (by omega), shl_one _ (by omega), w1 i (by omega), wrap_id ((a.length : Int) - 1) (by omega) (by omega), wrap_id ((b.length : Int) - 1) (by omega) (by omega)]
    have hm := modelM_len (inps a).length (i : Int)
    refine Both.posL (by omega) <| Both.posL (by omega) <| Both.posR (by omega) <| Both.bindL (spec_l4Model_ev _ (by omega) _) <| Both.bindR (impl_model_ev _ (by omega) _) <| Both.bindL (spec_l8Eval_ev a _ (by omega) hoka hm.symm) <| Both.bindR (impl_output_ev a _ (by omega) hoka hm.symm) ?_
    refine Both.posL (by omega) <| Both.posL (by rw [evalM_len]; omega) <| Both.bindL (spec_l8Eval_ev b _ (by omega) hokb (by rw [← hab]; exact hm.symm)) <| Both.bindR (impl_output_ev b _ (by omega) hokb (by rw [← hab]; exact hm.symm)) <| Both.posL (by omega) <| Both.posL (by rw [evalM_len]; omega) ?_
    exact Both.ite (fun h => Both.now _ trivial) (fun _ => ih (i + 1) (by omega))
theorem always_both (a b : List S69) (ha : a.length ≤ 1048576) (hb : b.length ≤ 1048576) : Both (fun _ => True) (fun k => spec_AlwaysSame.f k a b) (fun k => impl_AlwaysSame.f k a b) := by
  unfold spec_AlwaysSame.f impl_AlwaysSame.f
  have bad : Both (fun _ => True) (fun k => spec_AlwaysSame.j0 k a b true) (fun k => impl_AlwaysSame.j0 k a b true) :=
    Both.stepL (fun k => spec_AlwaysSame.j0.eq_2 ..) (Both.stepR (fun k => impl_AlwaysSame.j0.eq_2 ..) (Both.posL rfl (Both.posR rfl (Both.now _ trivial))))
  refine (goodGates_both a (by omega)).bind2 (fun r hr => Both.ite (fun h => ?_) (fun _ => bad))
  refine (goodGates_both b (by omega)).bind2 (fun r' hr' => Both.ite (fun h' => ?_) (fun _ => bad))
  obtain ⟨h1, hok⟩ := hr h
  obtain ⟨h1', hok'⟩ := hr' h'
  have hla := inps_len a
  have e1 := spec_l8Inputs_ev a (by omega)
  have e2 := spec_l8Inputs_ev b (by omega)
  have e3 := impl_inputs_ev a (by omega)
  have e4 := impl_inputs_ev b (by omega)
  refine Both.bindL e1 <| Both.bindL e2 <| Both.bindR e3 <| Both.bindR e4 ?_
  by_cases e : (inps a).length = (inps b).length
  · rw [show (((inps a).length : Int) != ((inps b).length : Int)) = false by simp [e]]
    refine Both.stepL (fun k => spec_AlwaysSame.j0.eq_2 ..) (Both.stepR (fun k => impl_AlwaysSame.j0.eq_2 ..) <| Both.negL (by simp) <| Both.negR (by simp) <| Both.bindL e1 <| Both.bindR e3 ?_)
    rw [shl_one _ (by omega)]
    exact always_loop a b h1 h1' (fun j hj => hok j hj (by omega)) (fun j hj => hok' j hj (by omega)) e (2 ^ (inps a).length) 0 (by omega)
  · rw [show (((inps a).length : Int) != ((inps b).length : Int)) = true by simp; omega]; exact bad
def deposit (m : Nat) : Nat → Nat → Nat → Nat → Nat
  | 0, _, _, out => out
  | d + 1, j, n, out => if m.testBit j = true then deposit m d (j + 1) (n / 2) (out + n % 2 * 2 ^ j) else deposit m d (j + 1) n out
theorem wrap_i64 (y : Int) : IntKind.i64.wrap y = wrap64 y := by
  rw [IntKind.wrap_i64]; unfold wrap64; omega
def EndsM (x y : Int) : Int × Int := if x / 65536 = y / 65536 then (x % 65536, y % 65536) else (0, 65535)
def mayN (v m x : Nat) : Nat := if x = 1 then v ||| m else andn 65535 v
def allIn (lo hi : Int) (l : List Int) : Bool := l.all fun x => In x lo hi
def tr : List Bool → Nat → List Int
  | [], _ => []
  | b :: v, s => if b = true then (s : Int) :: tr v (s + 1) else tr v (s + 1)
def putP : List Int → Int → List Int
  | [], x => [x]
  | a :: l, x => if a < x then a :: putP l x else if a = x then a :: l else x :: a :: l
theorem l1Has_loop (l : List Int) (x : Int) (hl : l.length ≤ 1099511627776) : ∀ (d i : Nat), i + d = l.length → Ev (fun k => spec_l1Has.l0 k x l (l.length : Int) (i : Int)) (decide (x ∈ l.drop i))
  | 0, i, h => by
    rw [List.drop_eq_nil_of_le (by omega)]
    exact Ev.step (fun k => spec_l1Has.l0.eq_2 ..) (Ev.neg (by omega) (Ev.now _))
  | d + 1, i, h => by
    refine Ev.step (fun k => spec_l1Has.l0.eq_2 ..) (Ev.pos (by omega) (Ev.pos (by omega) (Ev.pos (by omega) ?_)))
    rw [rd_nat l i (by omega), w1 i (by omega), List.drop_eq_getElem_cons (show i < l.length by omega)]
    by_cases hx : l[i] = x
    · refine Ev.pos hx (Ev.at_ (Ev.now _) ?_); simp [hx]
    · refine Ev.neg hx (Ev.at_ (l1Has_loop l x hl d (i + 1) (by omega)) ?_)
      have : ¬ x = l[i] := fun h => hx h.symm
      simp only [List.mem_cons, this, false_or]
theorem l1Has_ev (l : List Int) (x : Int) (hl : l.length ≤ 1099511627776) : Ev (fun k => spec_l1Has.f k l x) (decide (x ∈ l)) := by
  have h := l1Has_loop l x hl l.length 0 (by omega)
  rw [List.drop_zero] at h
  exact h
def trp (f : Nat → Bool) : List Bool → Nat → List Int
  | [], _ => []
  | b :: v, s => if (b && f s) = true then (s : Int) :: trp f v (s + 1) else trp f v (s + 1)
def EvP {α : Type} (g : Nat → Option α) (P : α → Prop) : Prop := ∃ r, Ev g r ∧ P r
theorem EvP.now {α : Type} {P : α → Prop} (r : α) (h : P r) : EvP (fun _ => some r) P := ⟨r, Ev.now r, h⟩
theorem EvP.bind {α β : Type} {g : Nat → Option α} {f : Nat → α → Option β} {P : α → Prop} {Q : β → Prop} (h : EvP g P) (k : ∀ a, P a → EvP (fun n => f n a) Q) : EvP (fun n => (g n).bind (f n)) Q := by
  obtain ⟨a, h1, h2⟩ := h
  obtain ⟨r, h3, h4⟩ := k a h2
  exact ⟨r, Ev.bind h1 h3, h4⟩
theorem EvP.bindE {α β : Type} {g : Option α} {f : Nat → α → Option β} {P : α → Prop} {Q : β → Prop} (h : ∃ a, g = some a ∧ P a) (k : ∀ a, P a → EvP (fun n => f n a) Q) : EvP (fun n => g.bind (f n)) Q := by
  obtain ⟨a, rfl, h2⟩ := h; exact k a h2
theorem EvP.mono {α : Type} {g : Nat → Option α} {P Q : α → Prop} (h : EvP g P) (k : ∀ a, P a → Q a) : EvP g Q := by obtain ⟨a, h1, h2⟩ := h; exact ⟨a, h1, k a h2⟩
theorem EvP.ite {α : Type} {c : Prop} [Decidable c] {A B : Nat → Option α} {P : α → Prop} (h1 : c → EvP A P) (h2 : ¬ c → EvP B P) : EvP (fun k => if c then A k else B k) P := by
  by_cases h : c
  · obtain ⟨r, a, b⟩ := h1 h; exact ⟨r, Ev.pos h a, b⟩
  · obtain ⟨r, a, b⟩ := h2 h; exact ⟨r, Ev.neg h a, b⟩
theorem EvP.pos {α : Type} {c : Prop} [Decidable c] {A B : Nat → Option α} {P : α → Prop} (h : c) (e : EvP A P) : EvP (fun k => if c then A k else B k) P := EvP.ite (fun _ => e) (fun n => absurd h n)
theorem EvP.neg {α : Type} {c : Prop} [Decidable c] {A B : Nat → Option α} {P : α → Prop} (h : ¬ c) (e : EvP B P) : EvP (fun k => if c then A k else B k) P := EvP.ite (fun n => absurd n h) (fun _ => e)
theorem EvP.step {α : Type} {g f : Nat → Option α} {P : α → Prop} (h : ∀ k, g (k + 1) = f k) (e : EvP f P) : EvP g P := by obtain ⟨r, a, b⟩ := e; exact ⟨r, Ev.step h a, b⟩
theorem EvP.congr {α : Type} {g f : Nat → Option α} {P : α → Prop} (h : ∀ k, g k = f k) (e : EvP f P) : EvP g P := by obtain ⟨r, a, b⟩ := e; exact ⟨r, Ev.congr h a, b⟩
def Bytes (l : List Int) : Prop := l.length ≤ 1099511627776 ∧ ∀ y ∈ l, 0 ≤ y ∧ y ≤ 255
theorem Bytes.rd {l : List Int} (h : Bytes l) (i : Int) (h0 : 0 ≤ i) (h1 : i < (l.length : Int)) : 0 ≤ rd l i ∧ rd l i ≤ 255 := by
  obtain ⟨n, rfl⟩ := Int.eq_ofNat_of_zero_le h0
  have hn : n < l.length := by omega
  rw [rd_nat l n hn]
  exact h.2 _ (List.getElem_mem hn)
theorem u8_wf {y : Int} (h : (Lit.int .u8 y).wf = true) : 0 ≤ y ∧ y ≤ 255 := by
  have h' : (decide (IntKind.u8.min ≤ y) && decide (y ≤ IntKind.u8.max)) = true := h
  have e1 : IntKind.u8.min = 0 := by decide
  have e2 : IntKind.u8.max = 255 := by decide
  rw [e1, e2] at h'
  simpa using h'
def CurAt (a : Int) (n : Nat) : Prop := 0 ≤ a ∧ a ≤ n
theorem u64c (x : Int) : 0 ≤ wrap64 (Go.bits .and .u64 x 255) ∧ wrap64 (Go.bits .and .u64 x 255) ≤ 255 := by
  have h : Go.bits .and .u64 x 255 = IntKind.u64.wrap ((BitVec.ofInt 64 x &&& BitVec.ofInt 64 255).toNat : Int) := rfl
  have h2 : (BitVec.ofInt 64 x &&& BitVec.ofInt 64 255).toNat ≤ 255 := by
    rw [BitVec.toNat_and]
    exact Nat.and_le_right
  have h3 : ∀ n : Int, IntKind.u64.wrap n = n % 18446744073709551616 := fun n => by simp [IntKind.wrap, IntKind.bits, IntKind.signed]
  rw [h, h3]
  generalize (BitVec.ofInt 64 x &&& BitVec.ofInt 64 255).toNat = z at h2
  unfold wrap64
  omega
theorem next_ok {l : List Int} (hl : Bytes l) (a s : Int) (h0 : 0 ≤ a) (h1 : a ≤ 1152921504606846976) :
    ∃ r : Int × Int × Int, spec_l1Cur_next.f l a s = some r ∧ (0 ≤ r.1 ∧ r.1 ≤ 255 ∧ r.2.1 = a + 1) := by
  have ew : wrap64 (a + 1) = a + 1 := by unfold wrap64; omega
  unfold spec_l1Cur_next.f
  by_cases c1 : a < (l.length : Int)
  · have hr := hl.rd a h0 c1
    have er : wrap64 (rd l a) = rd l a := by unfold wrap64; omega
    rw [if_pos c1, if_pos h0, ew, if_pos (by omega)]
    exact ⟨_, rfl, by rw [er]; exact hr.1, by rw [er]; exact hr.2, rfl⟩
  · rw [if_neg c1, ew, if_neg (by omega)]
    exact ⟨_, rfl, (u64c _).1, (u64c _).2, rfl⟩
theorem tmod_lt {x n : Int} (h0 : 0 ≤ x) (hn : 0 < n) : 0 ≤ Int.tmod x n ∧ Int.tmod x n < n := by
  rw [Int.tmod_eq_emod_of_nonneg h0]
  exact ⟨Int.emod_nonneg _ (by omega), Int.emod_lt_of_pos _ hn⟩
theorem pick_ok {l : List Int} (hl : Bytes l) (a s n : Int) (h0 : 0 ≤ a) (h1 : a ≤ 1152921504606846975) :
    ∃ r : Int × Int × Int, spec_l1Cur_pick.f l a s n = some r ∧ (0 ≤ r.1 ∧ r.1 ≤ n - 1 ∨ r.1 = 0 ∧ n ≤ 1) ∧ a ≤ r.2.1 ∧ r.2.1 ≤ a + 2 := by
  unfold spec_l1Cur_pick.f
  by_cases c1 : n ≤ 1
  · rw [if_pos c1]; exact ⟨_, rfl, Or.inr ⟨rfl, c1⟩, Int.le_refl _, by show a ≤ a + 2; omega⟩
  · rw [if_neg c1]
    obtain ⟨r, hr, h2, h3, h4⟩ := next_ok hl a s h0 (by omega)
    rw [hr]; simp only [Option.bind_some]
    by_cases c2 : n > 200
    · rw [if_pos c2]
      obtain ⟨q, hq, h5, h6, h7⟩ := next_ok hl r.2.1 r.2.2 (by omega) (by omega)
      rw [hq]; simp only [Option.bind_some]
      rw [if_neg (by omega)]
      have e : wrap64 ((wrap64 (r.1 * 256)) + q.1) = r.1 * 256 + q.1 := by unfold wrap64; omega
      have := tmod_lt (x := r.1 * 256 + q.1) (n := n) (by omega) (by omega)
      refine ⟨_, rfl, Or.inl ?_, ?_, ?_⟩
      · rw [e]; omega
      · show a ≤ q.2.1; omega
      · show q.2.1 ≤ a + 2; omega
    · rw [if_neg c2, if_neg (by omega)]
      have := tmod_lt (x := r.1) (n := n) h2 (by omega)
      refine ⟨_, rfl, Or.inl ?_, ?_, ?_⟩
      · show 0 ≤ Int.tmod r.1 n ∧ Int.tmod r.1 n ≤ n - 1; omega
      · show a ≤ r.2.1; omega
      · show r.2.1 ≤ a + 2; omega
theorem one_ok {l : List Int} (hl : Bytes l) (a s n : Int) (h0 : 0 ≤ a) (h1 : a ≤ 1152921504606846975) :
    ∃ r : Bool × Int × Int, spec_l1Cur_one.f l a s n = some r ∧ a ≤ r.2.1 ∧ r.2.1 ≤ a + 2 := by
  unfold spec_l1Cur_one.f
  obtain ⟨r, hr, _, h2, h3⟩ := pick_ok hl a s n h0 h1
  rw [hr]; exact ⟨_, rfl, h2, h3⟩
theorem bytes_of {l : List Int} (h : l.length * 1 ≤ 140737488351232 ∧ ∀ y0_ ∈ l, (Lit.int .u8 y0_).wf = true) (hs : l.length ≤ 1048576) : Bytes l := ⟨by omega, fun y hy => u8_wf (h.2 y hy)⟩
theorem small_of {l0 l1 : List Int} (h : ¬ (wrap64 ((l0.length : Int) + (l1.length : Int))) > 1048576) (h0 : l0.length * 1 ≤ 140737488351232) (h1 : l1.length * 1 ≤ 140737488351232) : l0.length ≤ 1048576 ∧ l1.length ≤ 1048576 := by
  have e : wrap64 ((l0.length : Int) + (l1.length : Int)) = (l0.length : Int) + (l1.length : Int) := by unfold wrap64; omega
  rw [e] at h; omega
def Mt (v m x : Int) : Prop := 0 ≤ x ∧ x ≤ 65535 ∧ Go.bits .andNot .i64 x m = v
def jm (a b c d : Nat) : Nat := (b ||| d) ||| (a ^^^ c)
def carryB (k x y e : Nat) : Bool := decide (2 ^ k ≤ x % 2 ^ k + y % 2 ^ k + e)
theorem sameInts_loop (l : List Int) (hl : l.length ≤ 1099511627776) : ∀ (d i : Nat), i + d = l.length → Ev (fun k => laws_sameInts.l0 k l l (l.length : Int) (i : Int)) true
  | 0, i, h => Ev.step (fun k => laws_sameInts.l0.eq_2 ..) (Ev.neg (by omega) (Ev.now _))
  | d + 1, i, h => by
    refine Ev.step (fun k => laws_sameInts.l0.eq_2 ..) (Ev.pos (by omega) (Ev.pos (by omega) (Ev.pos (by omega) (Ev.pos (by omega) (Ev.pos rfl ?_)))))
    rw [w1 i (by omega)]; exact sameInts_loop l hl d (i + 1) (by omega)
theorem sameInts_self (l : List Int) (hl : l.length ≤ 1099511627776) : Ev (fun k => laws_sameInts.f k l l) true := Ev.pos rfl (sameInts_loop l hl l.length 0 (by omega))
theorem sameBools_loop (a b : List Bool) (h : a.length = b.length) (hl : a.length ≤ 1048576) : ∀ (d i : Nat), i + d = a.length → Ev (fun k => laws_sameBools.l0 k a b (a.length : Int) (i : Int)) (decide (a.drop i = b.drop i))
  | 0, i, hi => by
    rw [List.drop_eq_nil_of_le (by omega), List.drop_eq_nil_of_le (by omega)]
    exact Ev.step (fun k => laws_sameBools.l0.eq_2 ..) (Ev.neg (by omega) (Ev.at_ (Ev.now _) (by simp)))
  | d + 1, i, hi => by
    refine Ev.step (fun k => laws_sameBools.l0.eq_2 ..) (Ev.pos (by omega) (Ev.pos (by omega) (Ev.pos (by omega) (Ev.pos (by omega) ?_))))
    rw [rdOf_nat false a i (by omega), rdOf_nat false b i (by omega), w1 i (by omega), List.drop_eq_getElem_cons (show i < a.length by omega), List.drop_eq_getElem_cons (show i < b.length by omega)]
    by_cases hx : a[i] = b[i]
    · refine Ev.neg (by simp [hx]) (Ev.at_ (sameBools_loop a b h hl d (i + 1) (by omega)) ?_)
      simp only [hx, List.cons.injEq, true_and]
    · refine Ev.pos (by simpa using hx) (Ev.at_ (Ev.now _) ?_)
      simp only [List.cons.injEq, hx, false_and, decide_false]
theorem sameBools_self (a : List Bool) (hl : a.length ≤ 1048576) : Ev (fun k => laws_sameBools.f k a a) true := by
  have h := sameBools_loop a a rfl hl a.length 0 (by omega)
  unfold laws_sameBools.f
  exact Ev.pos rfl (Ev.at_ h (by simp))
theorem modelOf_loop (n : Nat) (hn : n ≤ 1048576) (x : Int) : ∀ (d i : Nat) (acc : List Bool), i + d = n → acc.length = n → acc.take i = (modelM n x).take i → Ev (fun k => laws_modelOf.l0 k x acc (n : Int) (i : Int)) (modelM n x)
  | 0, i, acc, hi, ha, ht => by
    refine Ev.step (fun k => laws_modelOf.l0.eq_2 ..) (Ev.neg (by omega) ?_)
    rw [List.take_of_length_le (by omega), List.take_of_length_le (by rw [modelM_len]; omega)] at ht
    rw [ht]; exact Ev.now _
  | d + 1, i, acc, hi, ha, ht => by
    refine Ev.step (fun k => laws_modelOf.l0.eq_2 ..) ?_
    rw [u64_nat i (by omega), w1 i (by omega), Int.toNat_natCast]
    refine Ev.pos (by omega) <| Ev.pos (by omega) <| Ev.pos (by omega) <| Ev.pos (by omega) ?_
    refine modelOf_loop n hn x d (i + 1) _ (by omega) (by simpa using ha) ?_
    rw [set_take _ _ _ (by omega), ht, List.take_succ_eq_append_getElem (l := modelM n x) (by rw [modelM_len]; omega)]
    simp [modelM, bitM]
theorem modelOf_ev (n : Nat) (hn : n ≤ 1048576) (x : Int) : Ev (fun k => laws_modelOf.f k (n : Int) x) (modelM n x) := by
  unfold laws_modelOf.f
  refine Ev.pos (by omega) <| Ev.pos (by omega) <| Ev.bindE rfl ?_
  rw [Int.toNat_natCast, List.length_replicate]
  exact modelOf_loop n hn x n 0 _ (by omega) (by simp) (by simp)
theorem var_abs (n : Int) (h0 : -1000 ≤ n) (h1 : n ≤ 1000) : impl_variable.f n = some ((n.natAbs : Nat) : Int) := by
  unfold impl_variable.f
  have e : wrap64 (-n) = -n := wrap_id _ (by omega) (by omega)
  rw [e]
  by_cases h : n < -n
  · rw [if_pos h]; congr 1; omega
  · rw [if_neg h]; congr 1; omega
theorem rdL_nat (l : List (List Int)) (i : Nat) (h : i < l.length) : rd_L2 l (i : Int) = l[i] := by unfold rd_L2; simp [List.getD, h]
theorem impl_isClause_idx (p : Int → Option Bool) (l : List Int) (hl : l.length ≤ 1048576) (β : Int → Bool) (hp : ∀ x, x ∈ l → p x = some (β x)) : ∀ (d i : Nat), i + d = l.length → ∃ r, Ev (fun k => impl_isClause.idx k p l (i : Int)) r ∧ decide (r ≥ 0) = (l.drop i).any β
  | 0, i, h => ⟨-1, Ev.step (fun k => impl_isClause.idx.eq_2 ..) (Ev.neg (by omega) (Ev.now _)), by rw [List.drop_eq_nil_of_le (by omega)]; rfl⟩
  | d + 1, i, h => by
    have hi : i < l.length := by omega
    have hx := hp l[i] (List.getElem_mem hi)
    rw [List.drop_eq_getElem_cons hi, List.any_cons]
    by_cases hb : β l[i] = true
    · refine ⟨(i : Int), Ev.step (fun k => impl_isClause.idx.eq_2 ..) (Ev.pos (by omega) (Ev.pos (by omega) ?_)), by rw [hb, Bool.true_or]; exact decide_eq_true (by omega)⟩
      rw [rd_nat l i hi]; exact Ev.bindE hx (Ev.pos hb (Ev.now _))
    · obtain ⟨r, h1, h2⟩ := impl_isClause_idx p l hl β hp d (i + 1) (by omega)
      refine ⟨r, Ev.step (fun k => impl_isClause.idx.eq_2 ..) (Ev.pos (by omega) (Ev.pos (by omega) ?_)), by rw [Bool.eq_false_iff.mpr hb, Bool.false_or]; exact h2⟩
      rw [rd_nat l i hi, w1 i (by omega)]; exact Ev.bindE hx (Ev.neg hb h1)
theorem impl_isClause_any (p : Int → Option Bool) (l : List Int) (hl : l.length ≤ 1048576) (β : Int → Bool) (hp : ∀ x, x ∈ l → p x = some (β x)) : Ev (fun k => impl_isClause.any k p l) (l.any β) := by
  obtain ⟨r, h1, h2⟩ := impl_isClause_idx p l hl β hp l.length 0 (by omega)
  rw [List.drop_zero] at h2
  exact Ev.bind h1 (Ev.at_ (Ev.now _) h2)
theorem impl_holds_idx (p : Int → Option Bool) (l : List Int) (hl : l.length ≤ 1048576) (β : Int → Bool) (hp : ∀ x, x ∈ l → p x = some (β x)) : ∀ (d i : Nat), i + d = l.length → ∃ r, Ev (fun k => impl_holds.idx k p l (i : Int)) r ∧ decide (r ≥ 0) = (l.drop i).any β
  | 0, i, h => ⟨-1, Ev.step (fun k => impl_holds.idx.eq_2 ..) (Ev.neg (by omega) (Ev.now _)), by rw [List.drop_eq_nil_of_le (by omega)]; rfl⟩
  | d + 1, i, h => by
    have hi : i < l.length := by omega
    have hx := hp l[i] (List.getElem_mem hi)
    rw [List.drop_eq_getElem_cons hi, List.any_cons]
    by_cases hb : β l[i] = true
    · refine ⟨(i : Int), Ev.step (fun k => impl_holds.idx.eq_2 ..) (Ev.pos (by omega) (Ev.pos (by omega) ?_)), by rw [hb, Bool.true_or]; exact decide_eq_true (by omega)⟩
      rw [rd_nat l i hi]; exact Ev.bindE hx (Ev.pos hb (Ev.now _))
    · obtain ⟨r, h1, h2⟩ := impl_holds_idx p l hl β hp d (i + 1) (by omega)
      refine ⟨r, Ev.step (fun k => impl_holds.idx.eq_2 ..) (Ev.pos (by omega) (Ev.pos (by omega) ?_)), by rw [Bool.eq_false_iff.mpr hb, Bool.false_or]; exact h2⟩
      rw [rd_nat l i hi, w1 i (by omega)]; exact Ev.bindE hx (Ev.neg hb h1)
theorem impl_holds_any (p : Int → Option Bool) (l : List Int) (hl : l.length ≤ 1048576) (β : Int → Bool) (hp : ∀ x, x ∈ l → p x = some (β x)) : Ev (fun k => impl_holds.any k p l) (l.any β) := by
  obtain ⟨r, h1, h2⟩ := impl_holds_idx p l hl β hp l.length 0 (by omega)
  rw [List.drop_zero] at h2
  exact Ev.bind h1 (Ev.at_ (Ev.now _) h2)
def clF (v : Int) (c : List Int) : Nat → Nat → Bool
  | 0, _ => decide (c.length ≤ 12)
  | d + 1, i => (c.getD i 0 != 0 && In (c.getD i 0) (-v) v) && (!((c.take i).any (fun k => k == c.getD i 0 || k == -(c.getD i 0))) && clF v c d (i + 1))
theorem clF_impl (v : Int) (hv : 0 ≤ v ∧ v ≤ 12) (c : List Int) (hl : c.length ≤ 1048576) : ∀ (d i : Nat), i + d = c.length → (∀ j (h : j < c.length), j < i → -12 ≤ c[j] ∧ c[j] ≤ 12) → Ev (fun k => impl_isClause.l0 k c v (i : Int)) (clF v c d i)
  | 0, i, h, hj => Ev.step (fun k => impl_isClause.l0.eq_2 ..) (Ev.neg (by omega) (Ev.at_ (Ev.now _) (decide_eq_decide.2 (by omega))))
  | d + 1, i, h, hj => by
    have hi : i < c.length := by omega
    have eg : c.getD i 0 = c[i] := by simp [hi]
    have hwv : wrap64 (-v) = -v := wrap_id _ (by omega) (by omega)
    unfold clF
    rw [eg]
    by_cases h0 : c[i] = 0
    · have e : (c[i] != 0) = false := by simp [h0]
      rw [e, Bool.false_and, Bool.false_and]
      refine Ev.step (fun k => impl_isClause.l0.eq_2 ..) (Ev.pos (by omega) (Ev.pos (by omega) ?_))
      · rw [rd_nat c i hi]
        exact Ev.bindE (show impl_isLiteral.f c[i] v = some false by unfold impl_isLiteral.f; rw [if_pos h0]) (Ev.neg (by simp) (Ev.now _))
    · have e : (c[i] != 0) = true := by simp [h0]
      rw [e, Bool.true_and]
      have elit : impl_isLiteral.f c[i] v = some (In c[i] (-v) v) := by unfold impl_isLiteral.f; rw [if_neg h0, hwv]; first | exact impl_in_eq .. | (rw [impl_in_eq]; rfl)
      by_cases h1 : In c[i] (-v) v = true
      · have h1' := In_true.1 h1
        rw [h1, Bool.true_and]
        rw [h1] at elit
        have ih := clF_impl v hv c hl d (i + 1) (by omega) (fun j hjl hji => by
          by_cases e : j = i
          · subst e; omega
          · exact hj j hjl (by omega))
        have hmem : ∀ x, x ∈ c.take i → -12 ≤ x ∧ x ≤ 12 := fun x hx => by
          obtain ⟨j, hjl, e⟩ := List.getElem_of_mem hx
          rw [List.getElem_take] at e
          rw [List.length_take] at hjl
          rw [← e]; exact hj j (by omega) (by omega)
        have ha := impl_isClause_any (impl_isClause.np c[i]) (c.take i) (by rw [List.length_take]; omega) (fun k => k == c[i] || k == -c[i]) (fun x hx => by
          have := hmem x hx
          unfold impl_isClause.np
          rw [var_abs x (by omega) (by omega), Option.bind_some, var_abs c[i] (by omega) (by omega), Option.bind_some]
          congr 1
          rw [Bool.eq_iff_iff]
          simp only [beq_iff_eq, Bool.or_eq_true]
          omega)
        have hwn : wrap64 (-c[i]) = -c[i] := wrap_id _ (by omega) (by omega)
        refine Ev.step (fun k => impl_isClause.l0.eq_2 ..) (Ev.pos (by omega) (Ev.pos (by omega) ?_))
        · rw [rd_nat c i hi, Int.toNat_natCast, w1 i (by omega)]
          refine Ev.bindE elit (Ev.pos rfl (Ev.bind ha ?_))
          by_cases hb : ((c.take i).any (fun k => k == c[i] || k == -c[i])) = true
          · rw [hb]; exact Ev.pos rfl (Ev.now _)
          · rw [Bool.eq_false_iff.mpr hb]; exact Ev.neg (by simp) ih
      · rw [Bool.eq_false_iff.mpr h1, Bool.false_and]
        rw [Bool.eq_false_iff.mpr h1] at elit
        refine Ev.step (fun k => impl_isClause.l0.eq_2 ..) (Ev.pos (by omega) (Ev.pos (by omega) ?_))
        · rw [rd_nat c i hi]; exact Ev.bindE elit (Ev.neg (by simp) (Ev.now _))
def clB (v : Int) (c : List Int) : Bool := clF v c c.length 0
theorem clF_lits (v : Int) (c : List Int) : ∀ (d i : Nat), i + d = c.length → clF v c d i = true → c.length ≤ 12 ∧ ∀ j (h : j < c.length), i ≤ j → c[j] ≠ 0 ∧ -v ≤ c[j] ∧ c[j] ≤ v
  | 0, i, h, hc => ⟨of_decide_eq_true hc, fun j hj hij => by omega⟩
  | d + 1, i, h, hc => by
    unfold clF at hc
    simp only [Bool.and_eq_true, bne_iff_ne, In_true] at hc
    have ih := clF_lits v c d (i + 1) (by omega) hc.2.2
    have eg : c.getD i 0 = c[i]'(by omega) := by simp [show i < c.length by omega]
    rw [eg] at hc
    refine ⟨ih.1, fun j hj hij => ?_⟩
    by_cases e : j = i
    · subst e; exact ⟨hc.1.1, hc.1.2⟩
    · exact ih.2 j hj (by omega)
theorem clB_lits {v : Int} {c : List Int} (h : clB v c = true) : c.length ≤ 12 ∧ ∀ x, x ∈ c → x ≠ 0 ∧ -v ≤ x ∧ x ≤ v := by
  obtain ⟨h1, h2⟩ := clF_lits v c c.length 0 (by omega) h
  exact ⟨h1, fun x hx => by obtain ⟨j, hj, e⟩ := List.getElem_of_mem hx; rw [← e]; exact h2 j hj (by omega)⟩
def GoodC (v : Int) (l : List (List Int)) : Bool := In v 0 12 && (decide (l.length ≤ 60) && l.all (clB v))
theorem are_idx (p : List Int → Option Bool) (l : List (List Int)) (hl : l.length ≤ 1048576) (β : List Int → Bool) (hp : ∀ x, x ∈ l → p x = some (β x)) : ∀ (d i k : Nat), i + d = l.length → d < k → ∃ r, impl_areClauses.idx k p l (i : Int) = some r ∧ decide (r ≥ 0) = (l.drop i).any β
  | 0, i, k, h, hk => by
    obtain ⟨k, rfl⟩ : ∃ m, k = m + 1 := ⟨k - 1, by omega⟩
    exact ⟨-1, by unfold impl_areClauses.idx; rw [if_neg (by omega)], by rw [List.drop_eq_nil_of_le (by omega)]; rfl⟩
  | d + 1, i, k, h, hk => by
    obtain ⟨k, rfl⟩ : ∃ m, k = m + 1 := ⟨k - 1, by omega⟩
    have hi : i < l.length := by omega
    have hx := hp l[i] (List.getElem_mem hi)
    rw [List.drop_eq_getElem_cons hi, List.any_cons]
    unfold impl_areClauses.idx
    rw [if_pos (by omega), if_pos (by omega), rdL_nat l i hi, hx, Option.bind_some, w1 i (by omega)]
    by_cases hb : β l[i] = true
    · rw [if_pos hb]; exact ⟨_, rfl, by rw [hb, Bool.true_or]; exact decide_eq_true (by omega)⟩
    · rw [if_neg hb, Bool.eq_false_iff.mpr hb, Bool.false_or]
      exact are_idx p l hl β hp d (i + 1) k (by omega) (by omega)
theorem evAllL {α : Type} {P : Nat → α → Option Bool} {β : α → Bool} : ∀ l : List α, (∀ x, x ∈ l → Ev (fun k => P k x) (β x)) → ∃ K, ∀ k, K ≤ k → ∀ x, x ∈ l → P k x = some (β x)
  | [], _ => ⟨0, fun _ _ x hx => by simp at hx⟩
  | a :: l, h => by
    obtain ⟨K, hK⟩ := evAllL l (fun x hx => h x (List.mem_cons_of_mem _ hx))
    obtain ⟨K2, hK2⟩ := h a (List.mem_cons_self ..)
    refine ⟨max K K2, fun k hk x hx => ?_⟩
    rcases List.mem_cons.1 hx with rfl | hx
    · exact hK2 k (by omega)
    · exact hK k (by omega) x hx
theorem isClause_ev (v : Int) (hv : 0 ≤ v ∧ v ≤ 12) (c : List Int) (hl : c.length ≤ 1048576) : Ev (fun k => impl_isClause.f k c v) (clB v c) := clF_impl v hv c hl c.length 0 (by omega) (fun j hj h => by omega)
def Rows (l : List (List Int)) : Prop := l.length ≤ 1048576 ∧ ∀ c, c ∈ l → c.length ≤ 1048576
theorem goodCI (v : Int) (l : List (List Int)) (hl : Rows l) : Ev (fun k => impl_GoodClauses.f k v l) (GoodC v l) := by
  unfold impl_GoodClauses.f GoodC
  refine Ev.bindE (impl_in_eq ..) ?_
  by_cases h1 : In v 0 12 = true
  · have h1' := In_true.1 h1
    rw [h1, Bool.true_and]
    refine Ev.pos rfl ?_
    by_cases h2 : l.length ≤ 60
    · rw [decide_eq_true h2, Bool.true_and]
      refine Ev.pos (by omega) (Ev.bind (a := l.all (clB v)) ?_ (Ev.now _))
      obtain ⟨K, hK⟩ := evAllL (P := fun k c => impl_areClauses.np k v c) (β := fun c => !clB v c) l (fun c hc => Ev.bind (isClause_ev v h1' c (hl.2 c hc)) (Ev.now _))
      refine ⟨max K (l.length + 1), fun k hk => ?_⟩
      obtain ⟨r, e1, e2⟩ := are_idx (impl_areClauses.np k v) l hl.1 (fun c => !clB v c) (hK k (by omega)) l.length 0 k (by omega) (by omega)
      rw [List.drop_zero] at e2
      unfold impl_areClauses.f impl_areClauses.any
      rw [show ((0 : Nat) : Int) = 0 from rfl] at e1
      show ((impl_areClauses.idx k (impl_areClauses.np k v) l 0).bind fun t => some (decide (t ≥ 0))).bind (fun t => some !t) = _
      rw [e1, Option.bind_some, Option.bind_some, e2]
      congr 1
      rw [List.not_any_eq_all_not]
      congr 1
      funext c
      simp
    · rw [decide_eq_false h2, Bool.false_and]; exact Ev.neg (by omega) (Ev.now _)
  · rw [Bool.eq_false_iff.mpr h1, Bool.false_and]; exact Ev.neg (by simp) (Ev.now _)
def litB (m : List Bool) (x : Int) : Bool := m.getD (x.natAbs - 1) false == decide (x > 0)
def holdsB (m : List Bool) (l : List (List Int)) : Bool := l.all (fun c => c.any (litB m))
def LitsIn (v : Nat) (l : List (List Int)) : Prop := l.length ≤ 60 ∧ ∀ c, c ∈ l → c.length ≤ 12 ∧ ∀ x, x ∈ c → x ≠ 0 ∧ -(v : Int) ≤ x ∧ x ≤ (v : Int)
theorem litI (v : Nat) (hv : v ≤ 12) (m : List Bool) (hm : m.length = v) (x : Int) (h0 : x ≠ 0) (h1 : -(v : Int) ≤ x) (h2 : x ≤ (v : Int)) : impl_holds.np m x = some (litB m x) := by
  unfold impl_holds.np
  rw [var_abs x (by omega) (by omega), Option.bind_some, wrap_id _ (by omega) (by omega), if_pos (by omega), if_pos (by omega)]
  obtain ⟨j, hj⟩ : ∃ j : Nat, (x.natAbs : Int) - 1 = (j : Int) := ⟨x.natAbs - 1, by omega⟩
  rw [hj]
  unfold litB rdOf
  rw [Int.toNat_natCast, show x.natAbs - 1 = j by omega]
theorem holdsI_loop (v : Nat) (hv : v ≤ 12) (m : List Bool) (hm : m.length = v) (l : List (List Int)) (hl : LitsIn v l) : ∀ (d i : Nat), i + d = l.length → Ev (fun k => impl_holds.l0 k l m (i : Int)) (holdsB m (l.drop i))
  | 0, i, h => by rw [List.drop_eq_nil_of_le (by omega)]; exact Ev.step (fun k => impl_holds.l0.eq_2 ..) (Ev.neg (by omega) (Ev.now _))
  | d + 1, i, h => by
    have hi : i < l.length := by omega
    have h60 := hl.1
    have hr := hl.2 l[i] (List.getElem_mem hi)
    have ha := impl_holds_any (impl_holds.np m) l[i] (by omega) (litB m) (fun x hx => litI v hv m hm x (hr.2 x hx).1 (hr.2 x hx).2.1 (hr.2 x hx).2.2)
    rw [List.drop_eq_getElem_cons hi]
    unfold holdsB
    rw [List.all_cons]
    refine Ev.step (fun k => impl_holds.l0.eq_2 ..) (Ev.pos (by omega) (Ev.pos (by omega) ?_))
    rw [rdL_nat l i hi, w1 i (by omega)]
    refine Ev.bind ha ?_
    by_cases hb : l[i].any (litB m) = true
    · rw [hb, Bool.true_and]; exact Ev.pos rfl (holdsI_loop v hv m hm l hl d (i + 1) (by omega))
    · rw [Bool.eq_false_iff.mpr hb, Bool.false_and]; exact Ev.neg (by simp) (Ev.now _)
theorem holdsI (v : Nat) (hv : v ≤ 12) (m : List Bool) (hm : m.length = v) (l : List (List Int)) (hl : LitsIn v l) : Ev (fun k => impl_holds.f k l m) (holdsB m l) := by
  have := holdsI_loop v hv m hm l hl l.length 0 (by omega)
  rw [List.drop_zero] at this
  exact this
theorem GoodC_lits {v : Nat} {l : List (List Int)} (h : GoodC (v : Int) l = true) : v ≤ 12 ∧ LitsIn v l := by
  unfold GoodC at h
  simp only [Bool.and_eq_true, In_true, decide_eq_true_eq, List.all_eq_true] at h
  exact ⟨by omega, h.2.1, fun c hc => clB_lits (h.2.2 c hc)⟩
theorem bitM_nat (n j : Nat) (hn : n < 4611686018427387904) (hj : j ≤ 60) : bitM (n : Int) j = n.testBit j := by
  have hb : IntKind.i64.bits = 64 := rfl
  have e : shr .i64 (n : Int) (j : Int) = ((n / 2 ^ j : Nat) : Int) := by
    unfold shr
    rw [Int.toNat_natCast, hb, Nat.min_eq_left (by omega)]
    first | (rw [show ((2 : Int) ^ j) = ((2 ^ j : Nat) : Int) by rw [Int.natCast_pow]; rfl]; rfl) | (simp [Int.shiftRight_eq_div_pow]) | (norm_cast)
  unfold bitM
  rw [e]
  have h1 : n / 2 ^ j ≤ n := Nat.div_le_self _ _
  have := bits_and (n / 2 ^ j) 1 (by omega) (by omega)
  rw [show ((1 : Nat) : Int) = 1 from rfl] at this
  rw [this, Nat.and_one_is_mod, Nat.testBit_eq_decide_div_mod_eq, Bool.eq_iff_iff, beq_iff_eq, decide_eq_true_eq]
  omega
theorem idxI_loop (l : List Int) (x : Int) (hl : l.length ≤ 1048576) : ∀ (d i : Nat), i + d = l.length → ∃ r, Ev (fun k => slices_Index_int_int.l0 k l x (l.length : Int) (i : Int)) r ∧ decide (r ≥ 0) = decide (x ∈ l.drop i)
  | 0, i, h => ⟨-1, Ev.step (fun k => slices_Index_int_int.l0.eq_2 ..) (Ev.neg (by omega) (Ev.now _)), by rw [List.drop_eq_nil_of_le (by omega)]; rfl⟩
  | d + 1, i, h => by
    have hi : i < l.length := by omega
    rw [List.drop_eq_getElem_cons hi]
    by_cases e : x = l[i]
    · refine ⟨(i : Int), Ev.step (fun k => slices_Index_int_int.l0.eq_2 ..) (Ev.pos (by omega) (Ev.pos (by omega) (Ev.pos (by omega) ?_))), ?_⟩
      · rw [rd_nat l i hi]; exact Ev.pos e (Ev.now _)
      · rw [decide_eq_true (show ((i : Int) ≥ 0) by omega)]
        exact (decide_eq_true (by rw [e]; exact List.mem_cons_self ..)).symm
    · obtain ⟨r, h1, h2⟩ := idxI_loop l x hl d (i + 1) (by omega)
      refine ⟨r, Ev.step (fun k => slices_Index_int_int.l0.eq_2 ..) (Ev.pos (by omega) (Ev.pos (by omega) (Ev.pos (by omega) ?_))), ?_⟩
      · rw [rd_nat l i hi, w1 i (by omega)]; exact Ev.neg e h1
      · rw [h2]; exact decide_eq_decide.2 (by simp only [List.mem_cons, e, false_or])
theorem contI_ev (l : List Int) (x : Int) (hl : l.length ≤ 1048576) : Ev (fun k => slices_Contains_int_int.f k l x) (decide (x ∈ l)) := by
  obtain ⟨r, h1, h2⟩ := idxI_loop l x hl l.length 0 (by omega)
  rw [List.drop_zero] at h2
  unfold slices_Contains_int_int.f
  exact Ev.bind h1 (Ev.at_ (Ev.now _) h2)
def cln : List Int → List Int → Option (List Int)
  | acc, [] => some acc
  | acc, x :: xs => if -x ∈ acc then none else if x ∈ acc then cln acc xs else cln (acc ++ [x]) xs
def clnQ : Option (List Int) → List Int × Bool
  | some r => (r, true)
  | none => ([], false)
theorem cleanI_loop (c : List Int) (hl : c.length ≤ 1048576) (hx : ∀ x, x ∈ c → -1000 ≤ x ∧ x ≤ 1000) : ∀ (d i : Nat) (acc : List Int), i + d = c.length → acc.length ≤ i → Ev (fun k => impl_clean.l0 k acc c (c.length : Int) (i : Int)) (clnQ (cln acc (c.drop i)))
  | 0, i, acc, h, ha => by
    rw [List.drop_eq_nil_of_le (by omega)]
    exact Ev.step (fun k => impl_clean.l0.eq_2 ..) (Ev.neg (by omega) (Ev.now _))
  | d + 1, i, acc, h, ha => by
    have hi : i < c.length := by omega
    have hb := hx c[i] (List.getElem_mem hi)
    have ew : wrap64 (-c[i]) = -c[i] := wrap_id _ (by omega) (by omega)
    rw [List.drop_eq_getElem_cons hi]
    refine Ev.step (fun k => impl_clean.l0.eq_2 ..) (Ev.pos (by omega) (Ev.pos (by omega) (Ev.pos (by omega) ?_)))
    rw [rd_nat c i hi, w1 i (by omega), ew]
    refine Ev.bind (contI_ev acc (-c[i]) (by omega)) ?_
    unfold cln
    by_cases h1 : -c[i] ∈ acc
    · rw [if_pos h1]; exact Ev.pos (decide_eq_true h1) (Ev.now _)
    · rw [if_neg h1]
      refine Ev.neg (by simp [h1]) (Ev.bind (contI_ev acc c[i] (by omega)) ?_)
      by_cases h2 : c[i] ∈ acc
      · rw [if_pos h2]; exact Ev.pos (decide_eq_true h2) (cleanI_loop c hl hx d (i + 1) acc (by omega) (by omega))
      · rw [if_neg h2]
        exact Ev.neg (by simp [h2]) (Ev.pos (by omega) (cleanI_loop c hl hx d (i + 1) (acc ++ [c[i]]) (by omega) (by simp; omega)))
theorem cleanI_ev (c : List Int) (hl : c.length ≤ 1048576) (hx : ∀ x, x ∈ c → -1000 ≤ x ∧ x ≤ 1000) : Ev (fun k => impl_clean.f k c) (clnQ (cln [] c)) := by
  have := cleanI_loop c hl hx c.length 0 [] (by omega) (by simp)
  rw [List.drop_zero] at this
  exact this
theorem cleanS_loop (c : List Int) (hl : c.length ≤ 40) (hx : ∀ x, x ∈ c → x ≠ 0 ∧ -12 ≤ x ∧ x ≤ 12) : ∀ (d i : Nat) (acc : List Int), i + d = c.length → acc.length ≤ i → Ev (fun k => spec_CleanClause.l0 k acc c (c.length : Int) (i : Int)) (clnQ (cln acc (c.drop i)))
  | 0, i, acc, h, ha => by
    rw [List.drop_eq_nil_of_le (by omega)]
    exact Ev.step (fun k => spec_CleanClause.l0.eq_2 ..) (Ev.neg (by omega) (Ev.now _))
  | d + 1, i, acc, h, ha => by
    have hi : i < c.length := by omega
    have hb := hx c[i] (List.getElem_mem hi)
    have ew : wrap64 (-c[i]) = -c[i] := wrap_id _ (by omega) (by omega)
    rw [List.drop_eq_getElem_cons hi]
    refine Ev.step (fun k => spec_CleanClause.l0.eq_2 ..) (Ev.pos (by omega) (Ev.pos (by omega) (Ev.pos (by omega) ?_)))
    rw [rd_nat c i hi, ew]
    refine Ev.neg hb.1 (Ev.bindE (spec_l1In_eq ..) (Ev.pos (In_true.2 hb.2) (Ev.bind (l1Has_ev acc (-c[i]) (by omega)) ?_)))
    refine Ev.step (fun k => spec_CleanClause.j1.eq_2 ..) ?_
    rw [w1 i (by omega)]
    unfold cln
    by_cases h1 : -c[i] ∈ acc
    · rw [if_pos h1]; exact Ev.pos (decide_eq_true h1) (Ev.now _)
    · rw [if_neg h1]
      refine Ev.neg (by simp [h1]) (Ev.bind (l1Has_ev acc c[i] (by omega)) ?_)
      by_cases h2 : c[i] ∈ acc
      · rw [if_pos h2]; exact Ev.pos (decide_eq_true h2) (cleanS_loop c hl hx d (i + 1) acc (by omega) (by omega))
      · rw [if_neg h2]
        exact Ev.neg (by simp [h2]) (Ev.pos (by omega) (cleanS_loop c hl hx d (i + 1) (acc ++ [c[i]]) (by omega) (by simp; omega)))
theorem cleanS_ev (c : List Int) (hl : c.length ≤ 40) (hx : ∀ x, x ∈ c → x ≠ 0 ∧ -12 ≤ x ∧ x ≤ 12) : Ev (fun k => spec_CleanClause.f k c) (clnQ (cln [] c)) := by
  unfold spec_CleanClause.f
  have := cleanS_loop c hl hx c.length 0 [] (by omega) (by simp)
  rw [List.drop_zero] at this
  exact Ev.neg (by omega) this
theorem litB_neg (m : List Bool) (x : Int) (h : x ≠ 0) : litB m (-x) = !(litB m x) := by
  unfold litB
  rw [Int.natAbs_neg]
  by_cases h1 : x > 0
  · rw [decide_eq_true h1, decide_eq_false (show ¬ -x > 0 by omega)]; cases m.getD (x.natAbs - 1) false <;> rfl
  · rw [decide_eq_false h1, decide_eq_true (show -x > 0 by omega)]; cases m.getD (x.natAbs - 1) false <;> rfl
theorem litB_pos (m : List Bool) (x : Int) (h : 0 < x) : litB m x = m.getD (x.toNat - 1) false := by
  unfold litB
  rw [decide_eq_true (show x > 0 by omega), show x.natAbs = x.toNat by omega]; cases m.getD (x.toNat - 1) false <;> rfl
theorem any_mem {m : List Bool} {x : Int} {l : List Int} (h : x ∈ l) (hb : litB m x = true) : l.any (litB m) = true := List.any_eq_true.2 ⟨x, h, hb⟩
theorem cln_sem (m : List Bool) : ∀ (xs acc : List Int), (∀ x, x ∈ xs → x ≠ 0) → (match cln acc xs with | some r => r.any (litB m) | none => true) = (acc.any (litB m) || xs.any (litB m))
  | [], acc, _ => by simp [cln]
  | x :: xs, acc, h => by
    have hx := h x (List.mem_cons_self ..)
    have ht : ∀ y, y ∈ xs → y ≠ 0 := fun y hy => h y (List.mem_cons_of_mem _ hy)
    rw [List.any_cons]
    unfold cln
    by_cases h1 : -x ∈ acc
    · rw [if_pos h1]
      cases hb : litB m x
      · have := any_mem h1 (by rw [litB_neg m x hx, hb]; rfl)
        rw [this]; rfl
      · simp
    · rw [if_neg h1]
      by_cases h2 : x ∈ acc
      · rw [if_pos h2, cln_sem m xs acc ht]
        cases hb : litB m x
        · simp
        · rw [any_mem h2 hb]; rfl
      · rw [if_neg h2, cln_sem m xs (acc ++ [x]) ht, List.any_append, List.any_cons, List.any_nil, Bool.or_false, Bool.or_assoc]
def Dis (c : List Int) : Prop := ∀ j (h : j < c.length), c[j] ∉ c.take j ∧ -c[j] ∉ c.take j
theorem Dis.snoc {c : List Int} {x : Int} (h : Dis c) (h1 : x ∉ c) (h2 : -x ∉ c) : Dis (c ++ [x]) := by
  intro j hj
  rw [List.length_append, List.length_singleton] at hj
  by_cases e : j < c.length
  · rw [List.getElem_append_left e, List.take_append_of_le_length (by omega)]; exact h j e
  · have e' : j = c.length := by omega
    subst e'
    rw [List.getElem_concat_length (by rfl) (by simp), List.take_append_of_le_length (by omega), List.take_length]
    exact ⟨h1, h2⟩
theorem cln_shape (P : Int → Prop) : ∀ (xs acc r : List Int), cln acc xs = some r → Dis acc → (∀ x, x ∈ acc → P x) → (∀ x, x ∈ xs → P x) → Dis r ∧ (∀ x, x ∈ r → P x) ∧ r.length ≤ acc.length + xs.length
  | [], acc, r, h, hd, ha, _ => by
    obtain rfl := Option.some.inj h
    exact ⟨hd, ha, by simp⟩
  | x :: xs, acc, r, h, hd, ha, hx => by
    have ht : ∀ y, y ∈ xs → P y := fun y hy => hx y (List.mem_cons_of_mem _ hy)
    unfold cln at h
    by_cases h1 : -x ∈ acc
    · rw [if_pos h1] at h; cases h
    · rw [if_neg h1] at h
      by_cases h2 : x ∈ acc
      · rw [if_pos h2] at h
        have := cln_shape P xs acc r h hd ha ht
        exact ⟨this.1, this.2.1, by have := this.2.2; simp only [List.length_cons]; omega⟩
      · rw [if_neg h2] at h
        have := cln_shape P xs (acc ++ [x]) r h (hd.snoc h2 h1) (fun y hy => by
          rcases List.mem_append.1 hy with hy | hy
          · exact ha y hy
          · rw [List.mem_singleton.1 hy]; exact hx x (List.mem_cons_self ..)) ht
        refine ⟨this.1, this.2.1, ?_⟩
        have h3 := this.2.2
        rw [List.length_append, List.length_singleton] at h3
        rw [List.length_cons]; omega
theorem clF_intro (v : Int) (c : List Int) (hl : c.length ≤ 12) (hx : ∀ x, x ∈ c → x ≠ 0 ∧ -v ≤ x ∧ x ≤ v) (hd : Dis c) : ∀ (d i : Nat), i + d = c.length → clF v c d i = true
  | 0, i, h => decide_eq_true hl
  | d + 1, i, h => by
    have hi : i < c.length := by omega
    have eg : c.getD i 0 = c[i] := by simp [hi]
    have hb := hx c[i] (List.getElem_mem hi)
    have hn := hd i hi
    unfold clF
    rw [eg, clF_intro v c hl hx hd d (i + 1) (by omega), In_true.2 hb.2]
    have e1 : (c[i] != 0) = true := by simp [hb.1]
    have e2 : (c.take i).any (fun k => k == c[i] || k == -c[i]) = false := by
      rw [List.any_eq_false]
      intro x hxm hq
      simp only [Bool.or_eq_true, beq_iff_eq] at hq
      rcases hq with rfl | rfl
      · exact hn.1 hxm
      · exact hn.2 hxm
    rw [e1, e2]; rfl
def rawC (g : S69) (n : Int) : List (List Int) :=
  if g.f0 = 2 then [[n, g.f1 + 1], [-n, -(g.f1 + 1)]]
  else if g.f0 = 3 then [[-n, g.f1 + 1], [-n, g.f2 + 1], [n, -(g.f1 + 1), -(g.f2 + 1)]]
  else if g.f0 = 4 then [[n, -(g.f1 + 1)], [n, -(g.f2 + 1)], [-n, g.f1 + 1, g.f2 + 1]]
  else if g.f0 = 5 then [[-n, g.f1 + 1, g.f2 + 1], [-n, -(g.f1 + 1), -(g.f2 + 1)], [n, -(g.f1 + 1), g.f2 + 1], [n, g.f1 + 1, -(g.f2 + 1)]]
  else []
def gC (g : S69) (n : Int) : List (List Int) := (rawC g n).filterMap (cln [])
theorem gok_rng {g : S69} {j : Nat} (h : gok g j) : 0 ≤ g.f1 ∧ 0 ≤ g.f2 ∧ g.f1 ≤ j ∧ g.f2 ≤ j := by
  rcases h with ⟨_, h1, h2⟩ | ⟨_, h1, h2⟩ | ⟨_, h1, h2⟩ <;> omega
theorem gok_kind {g : S69} {j : Nat} (h : gok g j) : g.f0 = 1 ∨ g.f0 = 2 ∨ g.f0 = 3 ∨ g.f0 = 4 ∨ g.f0 = 5 := by
  rcases h with ⟨h, _⟩ | ⟨h, _⟩ | ⟨h, _⟩ <;> omega
theorem gok_lt {g : S69} {j : Nat} (h : gok g j) (h1 : g.f0 ≠ 1) : g.f1.toNat < j := by
  rcases h with ⟨h, _⟩ | ⟨h, _⟩ | ⟨h, _⟩ <;> omega
theorem gok_lt2 {g : S69} {j : Nat} (h : gok g j) (h1 : g.f0 ≠ 1) (h2 : g.f0 ≠ 2) : g.f2.toNat < j := by
  rcases h with ⟨h, _⟩ | ⟨h, _⟩ | ⟨h, _⟩ <;> omega
theorem rawC_len (g : S69) (n : Int) : (rawC g n).length ≤ 4 := by
  unfold rawC; (repeat' split) <;> simp
theorem rawC_lits {g : S69} {i v : Nat} (h : gok g i) (hi : i < v) : ∀ c, c ∈ rawC g ((i + 1 : Nat) : Int) → c.length ≤ 3 ∧ ∀ x, x ∈ c → x ≠ 0 ∧ -(v : Int) ≤ x ∧ x ≤ (v : Int) := by
  intro c hc
  have hr := gok_rng h
  have key : ∀ x : Int, (x = ((i + 1 : Nat) : Int) ∨ x = -((i + 1 : Nat) : Int) ∨ x = g.f1 + 1 ∨ x = -(g.f1 + 1) ∨ x = g.f2 + 1 ∨ x = -(g.f2 + 1)) → g.f1 < v ∧ g.f2 < v → x ≠ 0 ∧ -(v : Int) ≤ x ∧ x ≤ (v : Int) := by
    intro x hx hv; omega
  have hv : g.f1 < v ∧ g.f2 < v := by omega
  unfold rawC at hc
  (repeat' split at hc) <;> simp only [List.mem_cons, List.not_mem_nil, or_false] at hc <;> (try contradiction) <;>
    (rcases hc with rfl | rfl | rfl | rfl <;> (refine ⟨by simp, fun x hx => key x ?_ hv⟩; simp only [List.mem_cons, List.not_mem_nil, or_false] at hx; omega))
theorem gC_len (g : S69) (n : Int) : (gC g n).length ≤ 4 := Nat.le_trans (List.length_filterMap_le ..) (rawC_len g n)
theorem gC_good {g : S69} {i v : Nat} (h : gok g i) (hi : i < v) : ∀ c, c ∈ gC g ((i + 1 : Nat) : Int) → clB (v : Int) c = true := by
  intro c hc
  obtain ⟨r, hr, e⟩ := List.mem_filterMap.1 hc
  have hl := rawC_lits h hi r hr
  have hs := cln_shape (fun x => x ≠ 0 ∧ -(v : Int) ≤ x ∧ x ≤ (v : Int)) r [] c e (fun j hj => by simp at hj) (fun x hx => by simp at hx) hl.2
  have h3 := hs.2.2
  simp only [List.length_nil] at h3
  exact clF_intro (v : Int) c (by omega) hs.2.1 hs.1 c.length 0 (by omega)
def cFrom : Nat → List S69 → List (List Int)
  | _, [] => []
  | i, g :: gs => gC g ((i + 1 : Nat) : Int) ++ cFrom (i + 1) gs
def clausesM (l : List S69) : List (List Int) := cFrom 0 l ++ [[(l.length : Int)]]
theorem cFrom_len : ∀ (l : List S69) (i : Nat), (cFrom i l).length ≤ 4 * l.length
  | [], i => by simp [cFrom]
  | g :: gs, i => by
    have := cFrom_len gs (i + 1)
    have := gC_len g ((i + 1 : Nat) : Int)
    unfold cFrom; rw [List.length_append, List.length_cons]; omega
theorem cFrom_good (v : Nat) : ∀ (l : List S69) (i : Nat), i + l.length ≤ v → (∀ j (h : j < l.length), gok l[j] (i + j)) → ∀ c, c ∈ cFrom i l → clB (v : Int) c = true
  | [], i, _, _, c, hc => by simp [cFrom] at hc
  | g :: gs, i, hi, hok, c, hc => by
    rw [List.length_cons] at hi
    unfold cFrom at hc
    rcases List.mem_append.1 hc with hc | hc
    · exact gC_good (hok 0 (by simp)) (by omega) c hc
    · refine cFrom_good v gs (i + 1) (by omega) (fun j hj => ?_) c hc
      have := hok (j + 1) (by simp; omega)
      rw [List.getElem_cons_succ] at this
      rw [show i + 1 + j = i + (j + 1) by omega]; exact this
theorem clausesM_good (l : List S69) (hl : 1 ≤ l.length ∧ l.length ≤ 12) (hok : ∀ j (h : j < l.length), gok l[j] j) : GoodC (l.length : Int) (clausesM l) = true := by
  unfold GoodC
  have h1 := cFrom_len l 0
  have h2 : ∀ c, c ∈ clausesM l → clB (l.length : Int) c = true := by
    intro c hc
    rcases List.mem_append.1 hc with hc | hc
    · exact cFrom_good l.length l 0 (by omega) (fun j hj => by rw [Nat.zero_add]; exact hok j hj) c hc
    · rw [List.mem_singleton.1 hc]
      refine clF_intro _ _ (by simp) (fun x hx => ?_) (fun j hj => ?_) 1 0 rfl
      · rw [List.mem_singleton.1 hx]; omega
      · simp only [List.length_singleton] at hj
        obtain rfl : j = 0 := by omega
        simp
  have h3 : (clausesM l).length ≤ 60 := by unfold clausesM; rw [List.length_append, List.length_singleton]; omega
  simp only [Bool.and_eq_true, In_true, decide_eq_true_eq, List.all_eq_true]
  exact ⟨by omega, h3, h2⟩
theorem clausesM_rows (l : List S69) (hl : 1 ≤ l.length ∧ l.length ≤ 12) (hok : ∀ j (h : j < l.length), gok l[j] j) : Rows (clausesM l) := by
  have hg := clausesM_good l hl hok
  obtain ⟨_, h⟩ := GoodC_lits hg
  exact ⟨by have := h.1; omega, fun c hc => by have := (h.2 c hc).1; omega⟩
theorem gcI_loop (rs : List (List Int)) (hl : rs.length ≤ 1000) (hx : ∀ c, c ∈ rs → c.length ≤ 3 ∧ ∀ x, x ∈ c → x ≠ 0 ∧ -12 ≤ x ∧ x ≤ 12) : ∀ (d i : Nat) (acc : List (List Int)), i + d = rs.length → acc.length ≤ i → Ev (fun k => impl_gateClauses.l0 k acc rs (rs.length : Int) (i : Int)) (acc ++ (rs.drop i).filterMap (cln []))
  | 0, i, acc, h, ha => by
    rw [List.drop_eq_nil_of_le (by omega), List.filterMap_nil, List.append_nil]
    exact Ev.step (fun k => impl_gateClauses.l0.eq_2 ..) (Ev.neg (by omega) (Ev.now _))
  | d + 1, i, acc, h, ha => by
    have hi : i < rs.length := by omega
    have hb := hx rs[i] (List.getElem_mem hi)
    rw [List.drop_eq_getElem_cons hi]
    refine Ev.step (fun k => impl_gateClauses.l0.eq_2 ..) (Ev.pos (by omega) (Ev.pos (by omega) (Ev.pos (by omega) ?_)))
    rw [rdL_nat rs i hi, w1 i (by omega)]
    refine Ev.bind (cleanI_ev rs[i] (by omega) (fun x hxm => by have := hb.2 x hxm; omega)) ?_
    cases e : cln [] rs[i] with
    | none =>
      rw [List.filterMap_cons_none e]
      exact Ev.neg (by simp [clnQ]) (gcI_loop rs hl hx d (i + 1) acc (by omega) (by omega))
    | some r =>
      rw [List.filterMap_cons_some e]
      refine Ev.pos rfl (Ev.pos (by omega) ?_)
      have := gcI_loop rs hl hx d (i + 1) (acc ++ [r]) (by omega) (by simp; omega)
      rw [List.append_assoc] at this; exact this
theorem gcI_ev (l : List S69) (i : Nat) (hi : i < l.length) (hl : l.length ≤ 12) (h : gok l[i] i) : Ev (fun k => impl_gateClauses.f k l (i : Int)) (gC l[i] ((i + 1 : Nat) : Int)) := by
  have hr := gok_rng h
  have hk := gok_kind h
  have e0 : wrap64 ((i : Int) + 1) = ((i + 1 : Nat) : Int) := w1 i (by omega)
  have e1 : wrap64 (l[i].f1 + 1) = l[i].f1 + 1 := wrap_id _ (by omega) (by omega)
  have e2 : wrap64 (l[i].f2 + 1) = l[i].f2 + 1 := wrap_id _ (by omega) (by omega)
  have e3 : wrap64 (-(((i + 1 : Nat) : Int))) = -(((i + 1 : Nat) : Int)) := wrap_id _ (by omega) (by omega)
  have e4 : wrap64 (-(l[i].f1 + 1)) = -(l[i].f1 + 1) := wrap_id _ (by omega) (by omega)
  have e5 : wrap64 (-(l[i].f2 + 1)) = -(l[i].f2 + 1) := wrap_id _ (by omega) (by omega)
  have hlit := rawC_lits h hi
  have fin : ∀ rs, rs = rawC l[i] ((i + 1 : Nat) : Int) → Ev (fun k => impl_gateClauses.j0 k rs) (gC l[i] ((i + 1 : Nat) : Int)) := by
    intro rs hrs
    subst hrs
    have h4 := rawC_len l[i] ((i + 1 : Nat) : Int)
    have := gcI_loop _ (by omega) (fun c hc => ⟨(hlit c hc).1, fun x hxm => by have := (hlit c hc).2 x hxm; omega⟩) (rawC l[i] ((i + 1 : Nat) : Int)).length 0 [] (by omega) (by simp)
    rw [List.drop_zero, List.nil_append] at this
    exact Ev.step (fun k => impl_gateClauses.j0.eq_2 ..) this
  unfold impl_gateClauses.f
  refine Ev.pos (by omega) (Ev.pos (by omega) ?_)
  rw [Gateb_nat l i hi, e0, e1, e2, e3, e4, e5]
  by_cases h2 : l[i].f0 = 2
  · exact Ev.pos h2 (fin _ (by unfold rawC; rw [if_pos h2]))
  · refine Ev.neg h2 ?_
    by_cases h3 : l[i].f0 = 3
    · exact Ev.pos h3 (fin _ (by unfold rawC; rw [if_neg h2, if_pos h3]))
    · refine Ev.neg h3 ?_
      by_cases h4 : l[i].f0 = 4
      · exact Ev.pos h4 (fin _ (by unfold rawC; rw [if_neg h2, if_neg h3, if_pos h4]))
      · refine Ev.neg h4 ?_
        by_cases h5 : l[i].f0 = 5
        · exact Ev.pos h5 (fin _ (by unfold rawC; rw [if_neg h2, if_neg h3, if_neg h4, if_pos h5]))
        · exact Ev.neg h5 (fin _ (by unfold rawC; rw [if_neg h2, if_neg h3, if_neg h4, if_neg h5]))
theorem gcS_loop (rs : List (List Int)) (hl : rs.length ≤ 1000) (hx : ∀ c, c ∈ rs → c.length ≤ 3 ∧ ∀ x, x ∈ c → x ≠ 0 ∧ -12 ≤ x ∧ x ≤ 12) : ∀ (d i : Nat) (acc : List (List Int)), i + d = rs.length → acc.length ≤ i → Ev (fun k => spec_l8Clauses.l0 k acc rs (rs.length : Int) (i : Int)) (acc ++ (rs.drop i).filterMap (cln []))
  | 0, i, acc, h, ha => by
    rw [List.drop_eq_nil_of_le (by omega), List.filterMap_nil, List.append_nil]
    exact Ev.step (fun k => spec_l8Clauses.l0.eq_2 ..) (Ev.neg (by omega) (Ev.now _))
  | d + 1, i, acc, h, ha => by
    have hi : i < rs.length := by omega
    have hb := hx rs[i] (List.getElem_mem hi)
    rw [List.drop_eq_getElem_cons hi]
    refine Ev.step (fun k => spec_l8Clauses.l0.eq_2 ..) (Ev.pos (by omega) (Ev.pos (by omega) (Ev.pos (by omega) ?_)))
    rw [rdL_nat rs i hi, w1 i (by omega)]
    refine Ev.bind (cleanS_ev rs[i] (by omega) (fun x hxm => hb.2 x hxm)) ?_
    cases e : cln [] rs[i] with
    | none =>
      rw [List.filterMap_cons_none e]
      exact Ev.neg (by simp [clnQ]) (gcS_loop rs hl hx d (i + 1) acc (by omega) (by omega))
    | some r =>
      rw [List.filterMap_cons_some e]
      refine Ev.pos rfl (Ev.pos (by omega) ?_)
      have := gcS_loop rs hl hx d (i + 1) (acc ++ [r]) (by omega) (by simp; omega)
      rw [List.append_assoc] at this; exact this
theorem rawS_ev (g : S69) (i : Nat) (hi : i < 12) (h : gok g i) : spec_l8Raw.f g.f0 g.f1 g.f2 ((i + 1 : Nat) : Int) = some (rawC g ((i + 1 : Nat) : Int)) := by
  have hr := gok_rng h
  have e1 : wrap64 (g.f1 + 1) = g.f1 + 1 := wrap_id _ (by omega) (by omega)
  have e2 : wrap64 (g.f2 + 1) = g.f2 + 1 := wrap_id _ (by omega) (by omega)
  have e3 : wrap64 (-(((i + 1 : Nat) : Int))) = -(((i + 1 : Nat) : Int)) := wrap_id _ (by omega) (by omega)
  have e4 : wrap64 (-(g.f1 + 1)) = -(g.f1 + 1) := wrap_id _ (by omega) (by omega)
  have e5 : wrap64 (-(g.f2 + 1)) = -(g.f2 + 1) := wrap_id _ (by omega) (by omega)
  unfold spec_l8Raw.f rawC
  rw [e1, e2, e3, e4, e5]
  (repeat' split) <;> rfl
theorem gcS_ev (g : S69) (i : Nat) (hi : i < 12) (h : gok g i) : Ev (fun k => spec_l8Clauses.f k g.f0 g.f1 g.f2 (i : Int)) (gC g ((i + 1 : Nat) : Int)) := by
  have hlit := rawC_lits h hi
  have h4 := rawC_len g ((i + 1 : Nat) : Int)
  unfold spec_l8Clauses.f
  rw [w1 i (by omega)]
  refine Ev.bindE (rawS_ev g i hi h) ?_
  have := gcS_loop _ (by omega) (fun c hc => ⟨(hlit c hc).1, fun x hxm => by have := (hlit c hc).2 x hxm; omega⟩) (rawC g ((i + 1 : Nat) : Int)).length 0 [] (by omega) (by simp)
  rw [List.drop_zero, List.nil_append] at this
  exact this
theorem coI_loop (l : List S69) (hl : l.length ≤ 12) (hok : ∀ j (h : j < l.length), gok l[j] j) : ∀ (d i : Nat) (acc : List (List Int)), i + d = l.length → acc.length ≤ 4 * i → Ev (fun k => impl_ClausesOf.l0 k l acc (l.length : Int) (i : Int)) (acc ++ cFrom i (l.drop i) ++ [[(l.length : Int)]], true)
  | 0, i, acc, h, ha => by
    rw [List.drop_eq_nil_of_le (by omega)]
    unfold cFrom
    rw [List.append_nil]
    exact Ev.step (fun k => impl_ClausesOf.l0.eq_2 ..) (Ev.neg (by omega) (Ev.pos (by omega) (Ev.now _)))
  | d + 1, i, acc, h, ha => by
    have hi : i < l.length := by omega
    have h4 := gC_len l[i] ((i + 1 : Nat) : Int)
    rw [List.drop_eq_getElem_cons hi]
    unfold cFrom
    refine Ev.step (fun k => impl_ClausesOf.l0.eq_2 ..) (Ev.pos (by omega) (Ev.bind (gcI_ev l i hi hl (hok i hi)) (Ev.pos (by omega) ?_)))
    rw [w1 i (by omega), ← List.append_assoc acc]
    exact coI_loop l hl hok d (i + 1) (acc ++ gC l[i] ((i + 1 : Nat) : Int)) (by omega) (by rw [List.length_append]; omega)
theorem coS_loop (l : List S69) (hl : l.length ≤ 12) (hok : ∀ j (h : j < l.length), gok l[j] j) : ∀ (d i : Nat) (acc : List (List Int)), i + d = l.length → acc.length ≤ 4 * i → Ev (fun k => spec_ClausesOf.l0 k l acc l (l.length : Int) (i : Int)) (acc ++ cFrom i (l.drop i) ++ [[(l.length : Int)]], true)
  | 0, i, acc, h, ha => by
    rw [List.drop_eq_nil_of_le (by omega)]
    unfold cFrom
    rw [List.append_nil]
    exact Ev.step (fun k => spec_ClausesOf.l0.eq_2 ..) (Ev.neg (by omega) (Ev.pos (by omega) (Ev.now _)))
  | d + 1, i, acc, h, ha => by
    have hi : i < l.length := by omega
    have h4 := gC_len l[i] ((i + 1 : Nat) : Int)
    have hg := gcS_ev l[i] i (by omega) (hok i hi)
    rw [List.drop_eq_getElem_cons hi]
    unfold cFrom
    refine Ev.step (fun k => spec_ClausesOf.l0.eq_2 ..) (Ev.pos (by omega) (Ev.pos (by omega) (Ev.pos (by omega) ?_)))
    rw [Gateb_nat l i hi]
    refine Ev.bind hg (Ev.pos (by omega) ?_)
    rw [w1 i (by omega), ← List.append_assoc acc]
    exact coS_loop l hl hok d (i + 1) (acc ++ gC l[i] ((i + 1 : Nat) : Int)) (by omega) (by rw [List.length_append]; omega)
def agree (g : S69) (m : List Bool) (i : Nat) : Bool := if g.f0 = 1 then true else m.getD i false == gval g [] m
def consF : Nat → List S69 → List Bool → Bool
  | _, [], _ => true
  | i, g :: gs, m => agree g m i && consF (i + 1) gs m
theorem holds_clean (m : List Bool) : ∀ rs : List (List Int), (∀ c, c ∈ rs → ∀ x, x ∈ c → x ≠ 0) → holdsB m (rs.filterMap (cln [])) = holdsB m rs
  | [], _ => rfl
  | c :: rs, h => by
    have hc := cln_sem m c [] (h c (List.mem_cons_self ..))
    rw [List.any_nil, Bool.false_or] at hc
    have ih := holds_clean m rs (fun c hc => h c (List.mem_cons_of_mem _ hc))
    unfold holdsB at ih ⊢
    rw [List.all_cons]
    cases e : cln [] c with
    | none =>
      rw [List.filterMap_cons_none e, ih]
      rw [e] at hc
      simp only at hc
      rw [← hc, Bool.true_and]
    | some r =>
      rw [List.filterMap_cons_some e, List.all_cons, ih]
      rw [e] at hc
      simp only at hc
      rw [hc]
theorem gC_sem {g : S69} {i : Nat} (h : gok g i) (m : List Bool) : holdsB m (gC g ((i + 1 : Nat) : Int)) = agree g m i := by
  have hr := gok_rng h
  have hk := gok_kind h
  have hlit := rawC_lits h (Nat.lt_succ_self i)
  unfold gC
  rw [holds_clean m _ (fun c hc x hx => ((hlit c hc).2 x hx).1)]
  have a0 : litB m ((i + 1 : Nat) : Int) = m.getD i false := by rw [litB_pos m _ (by omega)]; rfl
  have a1 : litB m (g.f1 + 1) = m.getD g.f1.toNat false := by rw [litB_pos m _ (by omega), show (g.f1 + 1).toNat - 1 = g.f1.toNat by omega]
  have a2 : litB m (g.f2 + 1) = m.getD g.f2.toNat false := by rw [litB_pos m _ (by omega), show (g.f2 + 1).toNat - 1 = g.f2.toNat by omega]
  have b0 : litB m (-((i + 1 : Nat) : Int)) = !(m.getD i false) := by rw [litB_neg m _ (by omega), a0]
  have b1 : litB m (-(g.f1 + 1)) = !(m.getD g.f1.toNat false) := by rw [litB_neg m _ (by omega), a1]
  have b2 : litB m (-(g.f2 + 1)) = !(m.getD g.f2.toNat false) := by rw [litB_neg m _ (by omega), a2]
  unfold holdsB rawC agree gval
  rcases hk with hk | hk | hk | hk | hk <;> rw [hk] <;>
    simp only [show ¬ ((1 : Int) = 2) by decide, show ¬ ((1 : Int) = 3) by decide, show ¬ ((1 : Int) = 4) by decide, show ¬ ((1 : Int) = 5) by decide, show ¬ ((2 : Int) = 1) by decide, show ¬ ((3 : Int) = 1) by decide, show ¬ ((3 : Int) = 2) by decide, show ¬ ((4 : Int) = 1) by decide, show ¬ ((4 : Int) = 2) by decide, show ¬ ((4 : Int) = 3) by decide, show ¬ ((5 : Int) = 1) by decide, show ¬ ((5 : Int) = 2) by decide, show ¬ ((5 : Int) = 3) by decide, show ¬ ((5 : Int) = 4) by decide, if_true, if_false, List.all_cons, List.all_nil, List.any_cons, List.any_nil, a0, a1, a2, b0, b1, b2] <;>
    (generalize m.getD i false = p; generalize m.getD g.f1.toNat false = q; generalize m.getD g.f2.toNat false = r; cases p <;> cases q <;> cases r <;> rfl)
theorem cFrom_sem (m : List Bool) : ∀ (l : List S69) (i : Nat), (∀ j (h : j < l.length), gok l[j] (i + j)) → holdsB m (cFrom i l) = consF i l m
  | [], i, _ => rfl
  | g :: gs, i, hok => by
    have ih := cFrom_sem m gs (i + 1) (fun j hj => by
      have := hok (j + 1) (by simp; omega)
      rw [List.getElem_cons_succ] at this
      rw [show i + 1 + j = i + (j + 1) by omega]; exact this)
    have h0 := gC_sem (hok 0 (by simp)) m
    unfold cFrom consF
    unfold holdsB at ih h0 ⊢
    rw [List.all_append, ih]
    simp only [List.getElem_cons_zero, Nat.add_zero] at h0
    rw [h0]
theorem clausesM_sem (l : List S69) (hl : 1 ≤ l.length) (hok : ∀ j (h : j < l.length), gok l[j] j) (m : List Bool) : holdsB m (clausesM l) = (consF 0 l m && m.getD (l.length - 1) false) := by
  have h := cFrom_sem m l 0 (fun j hj => by rw [Nat.zero_add]; exact hok j hj)
  unfold clausesM
  unfold holdsB at h ⊢
  rw [List.all_append, h, List.all_cons, List.all_nil, List.any_cons, List.any_nil, litB_pos m _ (by omega), Int.toNat_natCast, Bool.or_false, Bool.and_true]
theorem inps_snoc (g : S69) : ∀ (A : List S69) (i : Nat), inpsFrom i (A ++ [g]) = inpsFrom i A ++ (if g.f0 = 1 then [((i + A.length : Nat) : Int)] else [])
  | [], i => by by_cases e : g.f0 = 1 <;> simp [inpsFrom, e]
  | h :: A, i => by
    have ih := inps_snoc g A (i + 1)
    have u : ∀ (i : Nat) (h : S69) (B : List S69), inpsFrom i (h :: B) = if h.f0 = 1 then (i : Int) :: inpsFrom (i + 1) B else inpsFrom (i + 1) B := fun _ _ _ => rfl
    rw [List.cons_append, u, u]
    rw [ih, List.length_cons, show i + 1 + A.length = i + (A.length + 1) by omega]
    by_cases e : h.f0 = 1
    · rw [if_pos e, if_pos e]; rfl
    · rw [if_neg e, if_neg e]
theorem eval_snoc (g : S69) : ∀ (A : List S69) (i : Nat) (ins acc : List Bool), evalFrom (A ++ [g]) ins acc = evalFrom A ins acc ++ [gval g (ins.drop (inpsFrom i A).length) (evalFrom A ins acc)]
  | [], i, ins, acc => by simp [evalFrom, inpsFrom]
  | h :: A, i, ins, acc => by
    rw [List.cons_append]
    unfold evalFrom
    rw [eval_snoc g A (i + 1)]
    have u : inpsFrom i (h :: A) = if h.f0 = 1 then (i : Int) :: inpsFrom (i + 1) A else inpsFrom (i + 1) A := rfl
    rw [u]
    by_cases e : h.f0 = 1
    · rw [if_pos e, if_pos e, List.drop_drop, List.length_cons, Nat.add_comm 1]
    · rw [if_neg e, if_neg e]
theorem eval_more (b : List Bool) : ∀ (A : List S69) (i : Nat) (ins acc : List Bool), (inpsFrom i A).length ≤ ins.length → evalFrom A (ins ++ b) acc = evalFrom A ins acc
  | [], i, ins, acc, _ => rfl
  | h :: A, i, ins, acc, hn => by
    unfold inpsFrom at hn
    unfold evalFrom
    by_cases e : h.f0 = 1
    · rw [if_pos e, List.length_cons] at hn
      obtain ⟨x, xs, rfl⟩ : ∃ x xs, ins = x :: xs := by
        cases ins with
        | nil => simp at hn
        | cons x xs => exact ⟨x, xs, rfl⟩
      have hg : gval h (x :: xs ++ b) acc = gval h (x :: xs) acc := by unfold gval; rw [if_pos e, if_pos e]; rfl
      rw [if_pos e, if_pos e, hg]
      exact eval_more b A (i + 1) xs _ (by simp at hn; omega)
    · rw [if_neg e] at hn
      have hg : gval h (ins ++ b) acc = gval h ins acc := by unfold gval; rw [if_neg e, if_neg e]
      rw [if_neg e, if_neg e, hg]
      exact eval_more b A (i + 1) ins _ hn
theorem gval_ins (g : S69) (h : g.f0 ≠ 1) (x y m : List Bool) : gval g x m = gval g y m := by unfold gval; rw [if_neg h, if_neg h]
theorem getD_app (m : List Bool) (b : List Bool) (i : Nat) (h : i < m.length) : (m ++ b).getD i false = m.getD i false := by
  simp only [List.getD_eq_getElem?_getD]; rw [List.getElem?_append_left h]
theorem getD_last (m : List Bool) (b : Bool) (n : Nat) (h : m.length = n) : (m ++ [b]).getD n false = b := by
  subst h
  rw [List.getD_eq_getElem?_getD, List.getElem?_append_right (Nat.le_refl _), Nat.sub_self]; rfl
theorem gval_app {g : S69} {i : Nat} (h : gok g i) (h1 : g.f0 ≠ 1) (m b : List Bool) (hm : i ≤ m.length) : gval g [] (m ++ b) = gval g [] m := by
  have ha := gok_lt h h1
  unfold gval
  rw [if_neg h1, if_neg h1, getD_app m b _ (by omega)]
  by_cases h2 : g.f0 = 2
  · rw [if_pos h2, if_pos h2]
  · rw [if_neg h2, if_neg h2, getD_app m b _ (by have := gok_lt2 h h1 h2; omega)]
theorem agree_app {g : S69} {i : Nat} (h : gok g i) (m b : List Bool) (hm : i < m.length) : agree g (m ++ b) i = agree g m i := by
  unfold agree
  by_cases h1 : g.f0 = 1
  · rw [if_pos h1, if_pos h1]
  · rw [if_neg h1, if_neg h1, getD_app m b i hm, gval_app h h1 m b (by omega)]
theorem cons_app (b : List Bool) (m : List Bool) : ∀ (A : List S69) (i : Nat), (∀ j (h : j < A.length), gok A[j] (i + j)) → i + A.length ≤ m.length → consF i A (m ++ b) = consF i A m
  | [], i, _, _ => rfl
  | g :: A, i, hok, hm => by
    rw [List.length_cons] at hm
    have h0 := hok 0 (by simp)
    simp only [List.getElem_cons_zero, Nat.add_zero] at h0
    unfold consF
    rw [agree_app h0 m b (by omega), cons_app b m A (i + 1) (fun j hj => by
      have := hok (j + 1) (by simp; omega)
      rw [List.getElem_cons_succ] at this
      rw [show i + 1 + j = i + (j + 1) by omega]; exact this) (by omega)]
theorem cons_snoc (g : S69) (m : List Bool) : ∀ (A : List S69) (i : Nat), consF i (A ++ [g]) m = (consF i A m && agree g m (i + A.length))
  | [], i => by simp [consF]
  | h :: A, i => by
    rw [List.cons_append]
    unfold consF
    rw [cons_snoc g m A (i + 1), List.length_cons, show i + 1 + A.length = i + (A.length + 1) by omega, Bool.and_assoc]
def cntM : Nat → (List Bool → Bool) → Nat
  | 0, F => (F []).toNat
  | n + 1, F => cntM n (fun m => F (m ++ [false])) + cntM n (fun m => F (m ++ [true]))
theorem cntM_congr : ∀ (n : Nat) (F G : List Bool → Bool), (∀ m, m.length = n → F m = G m) → cntM n F = cntM n G
  | 0, F, G, h => by unfold cntM; rw [h [] rfl]
  | n + 1, F, G, h => by
    unfold cntM
    rw [cntM_congr n _ _ (fun m hm => h (m ++ [false]) (by simp [hm])), cntM_congr n _ _ (fun m hm => h (m ++ [true]) (by simp [hm]))]
theorem cntM_add : ∀ (n : Nat) (F G H : List Bool → Bool), (∀ m, m.length = n → (F m).toNat + (G m).toNat = (H m).toNat) → cntM n F + cntM n G = cntM n H
  | 0, F, G, H, h => h [] rfl
  | n + 1, F, G, H, h => by
    have h0 := cntM_add n (fun m => F (m ++ [false])) (fun m => G (m ++ [false])) (fun m => H (m ++ [false])) (fun m hm => h _ (by simp [hm]))
    have h1 := cntM_add n (fun m => F (m ++ [true])) (fun m => G (m ++ [true])) (fun m => H (m ++ [true])) (fun m hm => h _ (by simp [hm]))
    unfold cntM; omega
def cR (F : Nat → Bool) : Nat → Nat → Nat
  | _, 0 => 0
  | i, d + 1 => (F i).toNat + cR F (i + 1) d
theorem cR_add (F : Nat → Bool) : ∀ (d e i : Nat), cR F i (d + e) = cR F i d + cR F (i + d) e
  | 0, e, i => by simp [cR]
  | d + 1, e, i => by
    have u : ∀ i d, cR F i (d + 1) = (F i).toNat + cR F (i + 1) d := fun _ _ => rfl
    rw [show d + 1 + e = (d + e) + 1 by omega, u, u, cR_add F d e (i + 1), show i + 1 + d = i + (d + 1) by omega]; omega
theorem cR_congr (F G : Nat → Bool) : ∀ (d i : Nat), (∀ z, i ≤ z → z < i + d → F z = G z) → cR F i d = cR G i d
  | 0, i, _ => rfl
  | d + 1, i, h => by unfold cR; rw [h i (by omega) (by omega), cR_congr F G d (i + 1) (fun z h1 h2 => h z (by omega) (by omega))]
theorem cR_shift (F : Nat → Bool) (s : Nat) : ∀ (d i : Nat), cR F (s + i) d = cR (fun z => F (s + z)) i d
  | 0, i => rfl
  | d + 1, i => by unfold cR; rw [Nat.add_assoc, cR_shift F s d (i + 1)]
theorem modelM_lo (n z : Nat) (hn : n ≤ 40) (hz : z < 2 ^ n) : modelM (n + 1) (z : Int) = modelM n (z : Int) ++ [false] := by
  have hp : 2 ^ n ≤ 2 ^ 40 := Nat.pow_le_pow_right (by decide) hn
  unfold modelM
  rw [List.range_succ, List.map_append, List.map_singleton, bitM_nat z n (by omega) (by omega), Nat.testBit_lt_two_pow hz]
theorem modelM_hi (n z : Nat) (hn : n ≤ 40) (hz : z < 2 ^ n) : modelM (n + 1) ((2 ^ n + z : Nat) : Int) = modelM n (z : Int) ++ [true] := by
  have hp : 2 ^ n ≤ 2 ^ 40 := Nat.pow_le_pow_right (by decide) hn
  unfold modelM
  rw [List.range_succ, List.map_append, List.map_singleton, bitM_nat (2 ^ n + z) n (by omega) (by omega), Nat.testBit_two_pow_add_eq, Nat.testBit_lt_two_pow hz]
  congr 1
  refine List.map_congr_left (fun i hi => ?_)
  have hi' := List.mem_range.1 hi
  rw [bitM_nat _ i (by omega) (by omega), bitM_nat _ i (by omega) (by omega), Nat.testBit_two_pow_add_gt hi']
theorem cR_cntM : ∀ (n : Nat) (F : List Bool → Bool), n ≤ 40 → cR (fun z => F (modelM n (z : Int))) 0 (2 ^ n) = cntM n F
  | 0, F, _ => by simp [cR, cntM, modelM]
  | n + 1, F, hn => by
    unfold cntM
    rw [← cR_cntM n _ (by omega), ← cR_cntM n _ (by omega), show 2 ^ (n + 1) = 2 ^ n + 2 ^ n by rw [Nat.pow_succ]; omega, cR_add]
    congr 1
    · exact cR_congr _ _ _ _ (fun z _ hz => by rw [modelM_lo n z (by omega) (by omega)])
    · have := cR_shift (fun z => F (modelM (n + 1) (z : Int))) (2 ^ n) (2 ^ n) 0
      rw [show 2 ^ n + 0 = 2 ^ n from rfl] at this
      rw [Nat.zero_add]
      refine this.trans ?_
      exact cR_congr _ _ _ _ (fun z _ hz => by rw [modelM_hi n z (by omega) (by omega)])
theorem take_snoc {α : Type} (l : List α) (n : Nat) (h : n < l.length) : l.take (n + 1) = l.take n ++ [l[n]] := List.take_succ_eq_append_getElem h
theorem take_ok {l : List S69} (hok : ∀ j (h : j < l.length), gok l[j] j) (n : Nat) : ∀ j (h : j < (l.take n).length), gok (l.take n)[j] (0 + j) := by
  intro j hj
  rw [List.length_take] at hj
  rw [List.getElem_take, Nat.zero_add]; exact hok j (by omega)
theorem cons_count (l : List S69) (hok : ∀ j (h : j < l.length), gok l[j] j) : ∀ (n : Nat), n ≤ l.length → ∀ P : List Bool → Bool, cntM n (fun m => consF 0 (l.take n) m && P m) = cntM (inps (l.take n)).length (fun ins => P (evalM (l.take n) ins))
  | 0, _, P => by simp [consF, inps, inpsFrom, evalM, evalFrom, cntM]
  | n + 1, hn, P => by
    have hA : (l.take n).length = n := by rw [List.length_take]; omega
    have hg := hok n (by omega)
    have ih := cons_count l hok n (by omega)
    have hc : ∀ (m b : List Bool), m.length = n → consF 0 (l.take n) (m ++ b) = consF 0 (l.take n) m := fun m b hm => cons_app b m (l.take n) 0 (take_ok hok n) (by omega)
    rw [take_snoc l n (by omega)]
    have hi := inps_snoc l[n] (l.take n) 0
    rw [Nat.zero_add, hA] at hi
    by_cases h1 : l[n].f0 = 1
    · rw [if_pos h1] at hi
      have hlen : (inps (l.take n ++ [l[n]])).length = (inps (l.take n)).length + 1 := by unfold inps; rw [hi, List.length_append, List.length_singleton]
      rw [hlen]
      have ev : ∀ (ins : List Bool) (b : Bool), ins.length = (inps (l.take n)).length → evalM (l.take n ++ [l[n]]) (ins ++ [b]) = evalM (l.take n) ins ++ [b] := by
        intro ins b hins
        unfold evalM
        rw [eval_snoc l[n] (l.take n) 0, eval_more [b] (l.take n) 0 ins [] (by show (inps (l.take n)).length ≤ _; omega)]
        congr 2
        unfold gval
        rw [if_pos h1]
        have : (inpsFrom 0 (l.take n)).length = ins.length := hins.symm
        rw [this, List.drop_left]; rfl
      have side : ∀ b : Bool, cntM n (fun m => consF 0 (l.take n ++ [l[n]]) (m ++ [b]) && P (m ++ [b])) = cntM (inps (l.take n)).length (fun ins => P (evalM (l.take n ++ [l[n]]) (ins ++ [b]))) := by
        intro b
        rw [cntM_congr n _ (fun m => consF 0 (l.take n) m && P (m ++ [b])) (fun m hm => by
          rw [cons_snoc, hc m [b] hm]; unfold agree; rw [if_pos h1, Bool.and_true])]
        rw [ih (fun m => P (m ++ [b]))]
        exact cntM_congr _ _ _ (fun ins hins => by rw [ev ins b hins])
      unfold cntM
      rw [side false, side true]
    · rw [if_neg h1, List.append_nil] at hi
      have hlen : (inps (l.take n ++ [l[n]])).length = (inps (l.take n)).length := by unfold inps; rw [hi]
      rw [hlen]
      have ev : ∀ (ins : List Bool), evalM (l.take n ++ [l[n]]) ins = evalM (l.take n) ins ++ [gval l[n] [] (evalM (l.take n) ins)] := by
        intro ins
        unfold evalM
        rw [eval_snoc l[n] (l.take n) 0, gval_ins l[n] h1 _ []]
      have ha : ∀ (m : List Bool) (b : Bool), m.length = n → agree l[n] (m ++ [b]) n = (b == gval l[n] [] m) := by
        intro m b hm
        unfold agree
        rw [if_neg h1, gval_app hg h1 m [b] (by omega)]
        rw [getD_last _ _ _ hm]
      rw [cntM_congr _ (fun ins => P (evalM (l.take n ++ [l[n]]) ins)) (fun ins => P (evalM (l.take n) ins ++ [gval l[n] [] (evalM (l.take n) ins)])) (fun ins _ => by rw [ev ins])]
      rw [← ih (fun m => P (m ++ [gval l[n] [] m]))]
      refine cntM_add n (fun m => consF 0 (l.take n ++ [l[n]]) (m ++ [false]) && P (m ++ [false])) (fun m => consF 0 (l.take n ++ [l[n]]) (m ++ [true]) && P (m ++ [true])) _ (fun m hm => ?_)
      rw [cons_snoc, cons_snoc, hc m [false] hm, hc m [true] hm, Nat.zero_add, hA, ha m false hm, ha m true hm]
      cases gval l[n] [] m <;> cases consF 0 (l.take n) m <;> simp
theorem cons_eval (l : List S69) (hok : ∀ j (h : j < l.length), gok l[j] j) : ∀ (n : Nat), n ≤ l.length → ∀ ins : List Bool, ins.length = (inps (l.take n)).length → consF 0 (l.take n) (evalM (l.take n) ins) = true ∧ (inps (l.take n)).map (fun x => rdOf false (evalM (l.take n) ins) x) = ins
  | 0, _, ins, h => by
    simp only [List.take_zero] at h ⊢
    have : ins = [] := List.length_eq_zero_iff.1 h
    subst this
    exact ⟨rfl, rfl⟩
  | n + 1, hn, ins, h => by
    have hA : (l.take n).length = n := by rw [List.length_take]; omega
    have hg := hok n (by omega)
    have hc : ∀ (m b : List Bool), m.length = n → consF 0 (l.take n) (m ++ b) = consF 0 (l.take n) m := fun m b hm => cons_app b m (l.take n) 0 (take_ok hok n) (by omega)
    have hE : ∀ ins, (evalM (l.take n) ins).length = n := fun ins => by rw [evalM_len, hA]
    rw [take_snoc l n (by omega)] at h ⊢
    have hi := inps_snoc l[n] (l.take n) 0
    rw [Nat.zero_add, hA] at hi
    have hold : ∀ (E b : List Bool), E.length = n → (inps (l.take n)).map (fun x => rdOf false (E ++ b) x) = (inps (l.take n)).map (fun x => rdOf false E x) := by
      intro E b hEl
      refine List.map_congr_left (fun x hx => ?_)
      have := inpsFrom_mem (l.take n) 0 x hx
      rw [hA] at this
      rw [rdOf_getD, rdOf_getD, getD_app E b _ (by omega)]
    by_cases h1 : l[n].f0 = 1
    · rw [if_pos h1] at hi
      have hlen : (inps (l.take n ++ [l[n]])).length = (inps (l.take n)).length + 1 := by unfold inps; rw [hi, List.length_append, List.length_singleton]
      rw [hlen] at h
      obtain ⟨is, b, rfl⟩ : ∃ is b, ins = is ++ [b] := by
        exact ⟨ins.dropLast, ins.getLast (by intro e; rw [e] at h; simp at h), (List.dropLast_concat_getLast _).symm⟩
      rw [List.length_append, List.length_singleton] at h
      have hins : is.length = (inps (l.take n)).length := by omega
      have ev : evalM (l.take n ++ [l[n]]) (is ++ [b]) = evalM (l.take n) is ++ [b] := by
        unfold evalM
        rw [eval_snoc l[n] (l.take n) 0, eval_more [b] (l.take n) 0 is [] (by show (inps (l.take n)).length ≤ _; omega)]
        congr 2
        unfold gval
        rw [if_pos h1]
        have : (inpsFrom 0 (l.take n)).length = is.length := hins.symm
        rw [this, List.drop_left]; rfl
      obtain ⟨q1, q2⟩ := cons_eval l hok n (by omega) is hins
      rw [ev]
      refine ⟨?_, ?_⟩
      · rw [cons_snoc, hc _ [b] (hE is), q1]; unfold agree; rw [if_pos h1]; rfl
      · have : inps (l.take n ++ [l[n]]) = inps (l.take n) ++ [(n : Int)] := hi
        rw [this, List.map_append, hold _ [b] (hE is), q2, List.map_singleton]
        congr 2
        rw [rdOf_getD, Int.toNat_natCast]
        exact getD_last _ _ _ (hE is)
    · rw [if_neg h1, List.append_nil] at hi
      have hin : inps (l.take n ++ [l[n]]) = inps (l.take n) := hi
      rw [hin] at h ⊢
      obtain ⟨q1, q2⟩ := cons_eval l hok n (by omega) ins h
      have ev : evalM (l.take n ++ [l[n]]) ins = evalM (l.take n) ins ++ [gval l[n] [] (evalM (l.take n) ins)] := by
        unfold evalM
        rw [eval_snoc l[n] (l.take n) 0, gval_ins l[n] h1 _ []]
      rw [ev]
      refine ⟨?_, by rw [hold _ _ (hE ins), q2]⟩
      rw [cons_snoc, hc _ _ (hE ins), q1, Nat.zero_add, hA]
      unfold agree
      rw [if_neg h1, gval_app hg h1 _ _ (by rw [hE ins]; omega)]
      rw [getD_last _ _ _ (hE ins)]
      simp
theorem tseitin_count (l : List S69) (hl : 1 ≤ l.length ∧ l.length ≤ 12) (hok : ∀ j (h : j < l.length), gok l[j] j) :
    cR (fun z => holdsB (modelM l.length (z : Int)) (clausesM l)) 0 (2 ^ l.length) = cR (fun z => outM l (modelM (inps l).length (z : Int))) 0 (2 ^ (inps l).length) := by
  have hlen := inps_len l
  rw [cR_cntM l.length (fun m => holdsB m (clausesM l)) (by omega), cR_cntM (inps l).length (fun ins => outM l ins) (by omega)]
  rw [cntM_congr l.length _ (fun m => consF 0 l m && m.getD (l.length - 1) false) (fun m _ => clausesM_sem l hl.1 hok m)]
  have h := cons_count l hok l.length (Nat.le_refl _) (fun m => m.getD (l.length - 1) false)
  rw [List.take_length] at h
  rw [h]
  refine cntM_congr _ _ _ (fun ins _ => ?_)
  unfold outM
  rw [rdOf_getD, show ((l.length : Int) - 1).toNat = l.length - 1 by omega]
theorem sameRows_loop (l : List (List Int)) (hl : l.length ≤ 1048576 ∧ ∀ c, c ∈ l → c.length ≤ 1048576) : ∀ (d i : Nat), i + d = l.length → Ev (fun k => laws_sameRows.l0 k l l (l.length : Int) (i : Int)) true
  | 0, i, h => Ev.step (fun k => laws_sameRows.l0.eq_2 ..) (Ev.neg (by omega) (Ev.now _))
  | d + 1, i, h => by
    have hi : i < l.length := by omega
    have h1 := hl.1
    have hc := hl.2 l[i] (List.getElem_mem hi)
    refine Ev.step (fun k => laws_sameRows.l0.eq_2 ..) (Ev.pos (by omega) (Ev.pos (by omega) (Ev.pos (by omega) (Ev.pos (by omega) ?_))))
    rw [show rd_L2 l (i : Int) = l[i] by unfold rd_L2; simp [List.getD, hi], w1 i (by omega)]
    exact Ev.bind (sameInts_self l[i] (by omega)) (Ev.pos rfl (sameRows_loop l hl d (i + 1) (by omega)))
theorem sameRows_self (l : List (List Int)) (hl : l.length ≤ 1048576 ∧ ∀ c, c ∈ l → c.length ≤ 1048576) : Ev (fun k => laws_sameRows.f k l l) true := Ev.pos rfl (sameRows_loop l hl l.length 0 (by omega))
theorem gates_l1 {l : List Int} (hl : Bytes l) : ∀ (d : Nat) (x : List S69) (a s : Int), 1 ≤ x.length → x.length + d ≤ 100 → 0 ≤ a → a + 10 * (d : Int) ≤ 1000000000 →
    EvP (fun k => spec_l1Cur_gates.l1 k x (d : Int) l a s) (fun r => (1 ≤ r.1.length ∧ r.1.length ≤ x.length + d) ∧ a ≤ r.2.1 ∧ r.2.1 ≤ a + 10 * (d : Int) + 10)
  | 0, x, a, s, h1, h2, h3, h4 => by
    refine EvP.step (fun k => spec_l1Cur_gates.l1.eq_2 ..) (EvP.neg (by omega) ?_)
    refine EvP.bindE (P := fun r => a ≤ r.2.1 ∧ r.2.1 ≤ a + 2) (one_ok hl a s 20 h3 (by omega)) fun p hp => EvP.ite (fun _ => ?_) (fun _ => EvP.now _ (by simp only; omega))
    refine EvP.bindE (P := fun r => (0 ≤ r.1 ∧ r.1 ≤ (x.length : Int) - 1 ∨ r.1 = 0 ∧ (x.length : Int) ≤ 1) ∧ p.2.1 ≤ r.2.1 ∧ r.2.1 ≤ p.2.1 + 2) (pick_ok hl _ _ _ (by omega) (by omega)) fun q hq => ?_
    refine EvP.bindE (P := fun r => (0 ≤ r.1 ∧ r.1 ≤ (7 : Int) - 1 ∨ r.1 = 0 ∧ (7 : Int) ≤ 1) ∧ q.2.1 ≤ r.2.1 ∧ r.2.1 ≤ q.2.1 + 2) (pick_ok hl _ _ _ (by omega) (by omega)) fun t ht => ?_
    refine EvP.bindE (P := fun r => (0 ≤ r.1 ∧ r.1 ≤ (5 : Int) - 1 ∨ r.1 = 0 ∧ (5 : Int) ≤ 1) ∧ t.2.1 ≤ r.2.1 ∧ r.2.1 ≤ t.2.1 + 2) (pick_ok hl _ _ _ (by omega) (by omega)) fun u hu => ?_
    refine EvP.bindE (P := fun r => (0 ≤ r.1 ∧ r.1 ≤ (3 : Int) - 1 ∨ r.1 = 0 ∧ (3 : Int) ≤ 1) ∧ u.2.1 ≤ r.2.1 ∧ r.2.1 ≤ u.2.1 + 2) (pick_ok hl _ _ _ (by omega) (by omega)) fun v hv => ?_
    refine EvP.pos (by omega) (EvP.pos (by omega) (EvP.now _ ?_))
    simp only [List.length_set]
    omega
  | d + 1, x, a, s, h1, h2, h3, h4 => by
    have ew : wrap64 (((d + 1 : Nat) : Int) - 1) = (d : Int) := by unfold wrap64; omega
    refine EvP.step (fun k => spec_l1Cur_gates.l1.eq_2 ..) (EvP.pos (by omega) ?_)
    rw [ew]
    refine EvP.bindE (P := fun r => (0 ≤ r.1 ∧ r.1 ≤ (4 : Int) - 1 ∨ r.1 = 0 ∧ (4 : Int) ≤ 1) ∧ a ≤ r.2.1 ∧ r.2.1 ≤ a + 2) (pick_ok hl _ _ _ (by omega) (by omega)) fun p hp => ?_
    refine EvP.bindE (P := fun r => (0 ≤ r.1 ∧ r.1 ≤ (x.length : Int) - 1 ∨ r.1 = 0 ∧ (x.length : Int) ≤ 1) ∧ p.2.1 ≤ r.2.1 ∧ r.2.1 ≤ p.2.1 + 2) (pick_ok hl _ _ _ (by omega) (by omega)) fun q hq => ?_
    refine EvP.ite (fun _ => EvP.pos (by omega) ?_) (fun _ => ?_)
    · refine (gates_l1 hl d _ q.2.1 q.2.2 (by simp) (by simp; omega) (by omega) (by omega)).mono fun r hr => ?_
      simp only [List.length_append, List.length_singleton] at hr
      omega
    · refine EvP.bindE (P := fun r => (0 ≤ r.1 ∧ r.1 ≤ (x.length : Int) - 1 ∨ r.1 = 0 ∧ (x.length : Int) ≤ 1) ∧ q.2.1 ≤ r.2.1 ∧ r.2.1 ≤ q.2.1 + 2) (pick_ok hl _ _ _ (by omega) (by omega)) fun t ht => EvP.pos (by omega) ?_
      refine (gates_l1 hl d _ t.2.1 t.2.2 (by simp) (by simp; omega) (by omega) (by omega)).mono fun r hr => ?_
      simp only [List.length_append, List.length_singleton] at hr
      omega
theorem gates_l0 {l : List Int} (hl : Bytes l) : ∀ (d : Nat) (x : List S69) (a s : Int), 1 ≤ x.length + d → x.length + d ≤ 10 → 0 ≤ a → a ≤ 1000000 →
    EvP (fun k => spec_l1Cur_gates.l0 k x (d : Int) l a s) (fun r => (1 ≤ r.1.length ∧ r.1.length ≤ 100) ∧ a ≤ r.2.1 ∧ r.2.1 ≤ a + 1000)
  | 0, x, a, s, h1, h2, h3, h4 => by
    refine EvP.step (fun k => spec_l1Cur_gates.l0.eq_2 ..) (EvP.neg (by omega) ?_)
    refine EvP.bindE (P := fun r => (0 ≤ r.1 ∧ r.1 ≤ (6 : Int) - 1 ∨ r.1 = 0 ∧ (6 : Int) ≤ 1) ∧ a ≤ r.2.1 ∧ r.2.1 ≤ a + 2) (pick_ok hl _ _ _ (by omega) (by omega)) fun p hp => ?_
    refine EvP.bindE (P := fun r => p.2.1 ≤ r.2.1 ∧ r.2.1 ≤ p.2.1 + 2) (one_ok hl _ _ 20 (by omega) (by omega)) fun q hq => EvP.ite (fun _ => ?_) (fun _ => ?_)
    · refine EvP.step (fun k => spec_l1Cur_gates.j1.eq_2 ..) ?_
      exact (gates_l1 hl 9 x q.2.1 q.2.2 (by omega) (by omega) (by omega) (by omega)).mono fun r hr => by omega
    · refine EvP.step (fun k => spec_l1Cur_gates.j1.eq_2 ..) ?_
      obtain ⟨n, hn⟩ := Int.eq_ofNat_of_zero_le (show 0 ≤ p.1 by omega)
      rw [hn]
      exact (gates_l1 hl n x q.2.1 q.2.2 (by omega) (by omega) (by omega) (by omega)).mono fun r hr => by omega
  | d + 1, x, a, s, h1, h2, h3, h4 => by
    have ew : wrap64 (((d + 1 : Nat) : Int) - 1) = (d : Int) := by unfold wrap64; omega
    refine EvP.step (fun k => spec_l1Cur_gates.l0.eq_2 ..) (EvP.pos (by omega) (EvP.pos (by omega) ?_))
    rw [ew]
    exact gates_l0 hl d _ a s (by rw [List.length_append, List.length_singleton]; omega) (by rw [List.length_append, List.length_singleton]; omega) h3 h4
theorem gates_ok {l : List Int} (hl : Bytes l) (a s : Int) (h3 : 0 ≤ a) (h4 : a ≤ 100000) : EvP (fun k => spec_l1Cur_gates.f k l a s) (fun r => (1 ≤ r.1.length ∧ r.1.length ≤ 100) ∧ a ≤ r.2.1 ∧ r.2.1 ≤ a + 2000) := by
  unfold spec_l1Cur_gates.f
  refine EvP.bindE (P := fun r => (0 ≤ r.1 ∧ r.1 ≤ (4 : Int) - 1 ∨ r.1 = 0 ∧ (4 : Int) ≤ 1) ∧ a ≤ r.2.1 ∧ r.2.1 ≤ a + 2) (pick_ok hl _ _ _ (by omega) (by omega)) fun p hp => ?_
  obtain ⟨n, hn⟩ := Int.eq_ofNat_of_zero_le (show 0 ≤ p.1 by omega)
  have ew : wrap64 (1 + p.1) = ((n + 1 : Nat) : Int) := by rw [hn]; unfold wrap64; omega
  rw [ew]
  exact (gates_l0 hl (n + 1) [] p.2.1 p.2.2 (by simp) (by simp; omega) (by omega) (by omega)).mono fun r hr => by omega
theorem drawClausesOf {l : List Int} (hl : Bytes l) : ∃ g, Ev (fun k => spec_DrawClausesOf.f k l) g ∧ g.length ≤ 100 := by
  have : EvP (fun k => spec_DrawClausesOf.f k l) (fun g => g.length ≤ 100) := by
    unfold spec_DrawClausesOf.f spec_DrawGoodGates.f
    refine EvP.bind (P := fun g => g.length ≤ 100) (EvP.bind (gates_ok hl 0 0 (by omega) (by omega)) fun p hp => EvP.now _ (by omega)) fun g hg => EvP.now _ hg
  exact this
theorem drawAlways {l : List Int} (hl : Bytes l) : ∃ p, Ev (fun k => spec_DrawAlwaysSame.f k l) p ∧ p.1.length ≤ 1000 ∧ p.2.length ≤ 1000 := by
  have : EvP (fun k => spec_DrawAlwaysSame.f k l) (fun p => p.1.length ≤ 1000 ∧ p.2.length ≤ 1000) := by
    unfold spec_DrawAlwaysSame.f
    refine EvP.bind (gates_ok hl 0 0 (by omega) (by omega)) fun p hp => ?_
    refine EvP.bindE (P := fun r => p.2.1 ≤ r.2.1 ∧ r.2.1 ≤ p.2.1 + 2) (one_ok hl _ _ 2 (by omega) (by omega)) fun q hq => EvP.ite (fun _ => ?_) (fun _ => ?_)
    · refine EvP.bindE (P := fun r => r.length = 0) ⟨_, rfl, rfl⟩ fun y hy => EvP.pos (by omega) ?_
      refine EvP.bindE (P := fun r => r.length ≤ 100) ⟨_, rfl, by rw [List.length_append]; omega⟩ fun z hz => EvP.pos (by omega) ?_
      refine EvP.bindE (P := fun r => r.length ≤ 101) ⟨_, rfl, by rw [List.length_append, List.length_singleton]; omega⟩ fun u hu => EvP.pos (by omega) (EvP.now _ ?_)
      simp only [List.length_append, List.length_singleton]
      omega
    · exact EvP.bind (gates_ok hl _ _ (by omega) (by omega)) fun r hr => EvP.now _ (by first | omega | (simp only; omega))
  exact this
theorem canBe_val_loop (l : List S69) (hl : 1 ≤ l.length ∧ l.length ≤ 12) (hok : ∀ j (h : j < l.length), gok l[j] j) : ∀ (d i : Nat), i + d = 2 ^ (inps l).length → Both (fun r => r.1 = decide (0 < cR (fun z => outM l (modelM (inps l).length (z : Int))) i d) ∧ r.2.2 = true ∧ r.2.1.length ≤ 1048576) (fun k => spec_CanBe.l0 k l ((inps l).length : Int) (i : Int)) (fun k => impl_CanBe.l0 k l ((inps l).length : Int) ((2 ^ (inps l).length : Nat) : Int) (i : Int)) := by
  have hlen := inps_len l
  have h2 : 2 ^ (inps l).length ≤ 2 ^ 12 := Nat.pow_le_pow_right (by decide) (by omega)
  intro d
  induction d with
  | zero =>
    intro i hi
    refine Both.stepL (fun k => spec_CanBe.l0.eq_2 ..) (Both.stepR (fun k => impl_CanBe.l0.eq_2 ..) ?_)
    rw [u64_nat _ (by omega), shl_one _ (by omega)]
    exact Both.posL (by omega) <| Both.negL (by omega) <| Both.negR (by omega) <| Both.now _ ⟨by simp [cR], rfl, by simp⟩
  | succ d ih =>
    intro i hi
    refine Both.stepL (fun k => spec_CanBe.l0.eq_2 ..) (Both.stepR (fun k => impl_CanBe.l0.eq_2 ..) ?_)
    rw [u64_nat _ (by omega), shl_one _ (by omega), w1 i (by omega), wrap_id ((l.length : Int) - 1) (by omega) (by omega)]
    have hm := modelM_len (inps l).length (i : Int)
    have hc : cR (fun z => outM l (modelM (inps l).length (z : Int))) i (d + 1) = (outM l (modelM (inps l).length (i : Int))).toNat + cR (fun z => outM l (modelM (inps l).length (z : Int))) (i + 1) d := rfl
    refine Both.posL (by omega) <| Both.posL (by omega) <| Both.posR (by omega) <| Both.bindL (spec_l4Model_ev _ (by omega) _) <| Both.bindR (impl_model_ev _ (by omega) _) <| Both.bindL (spec_l8Eval_ev l _ (by omega) hok hm.symm) <| Both.bindR (impl_output_ev l _ (by omega) hok hm.symm) ?_
    refine Both.posL (by omega) <| Both.posL (by rw [evalM_len]; omega) ?_
    refine Both.ite (fun h => Both.now _ ⟨?_, rfl, by simp only [modelM_len]; omega⟩) (fun h => (ih (i + 1) (by omega)).mono fun r hr => ⟨?_, hr.2⟩)
    · have h' : outM l (modelM (inps l).length (i : Int)) = true := h
      rw [hc, h']
      exact (decide_eq_true (by simp only [Bool.toNat_true]; omega)).symm
    · have h' : outM l (modelM (inps l).length (i : Int)) = false := Bool.eq_false_iff.mpr h
      rw [hc, h', hr.1]
      exact decide_eq_decide.2 (by simp only [Bool.toNat_false]; omega)
theorem countT_loop (v : Nat) (hv : v ≤ 12) (l : List (List Int)) (hlit : LitsIn v l) (N : Nat) (hN : N ≤ 1048576) : ∀ (d i m : Nat), i + d = N → m ≤ i → Ev (fun k => impl_countModels.l0 k (v : Int) l (m : Int) (N : Int) (i : Int)) (((m + cR (fun z => holdsB (modelM v (z : Int)) l) i d : Nat) : Int))
  | 0, i, m, h, hm => Ev.step (fun k => impl_countModels.l0.eq_2 ..) (Ev.neg (by omega) (Ev.at_ (Ev.now _) (by simp [cR])))
  | d + 1, i, m, h, hm => by
    have hc : cR (fun z => holdsB (modelM v (z : Int)) l) i (d + 1) = (holdsB (modelM v (i : Int)) l).toNat + cR (fun z => holdsB (modelM v (z : Int)) l) (i + 1) d := rfl
    rw [hc]
    refine Ev.step (fun k => impl_countModels.l0.eq_2 ..) (Ev.pos (by omega) (Ev.bind (impl_model_ev v (by omega) (i : Int)) (Ev.bind (holdsI v hv _ (modelM_len v _) l hlit) ?_)))
    rw [w1 i (by omega), w1 m (by omega)]
    by_cases hb : holdsB (modelM v (i : Int)) l = true
    · rw [hb]
      refine Ev.pos rfl (Ev.at_ (countT_loop v hv l hlit N hN d (i + 1) (m + 1) (by omega) (by omega)) ?_)
      congr 1; rw [Bool.toNat_true]; omega
    · rw [Bool.eq_false_iff.mpr hb]
      refine Ev.neg (by simp) (Ev.at_ (countT_loop v hv l hlit N hN d (i + 1) m (by omega) (by omega)) ?_)
      congr 1; rw [Bool.toNat_false]; omega
theorem countT_val (v : Nat) (l : List (List Int)) (hl : Rows l) (hg : GoodC (v : Int) l = true) : Ev (fun k => impl_CountModels.f k (v : Int) l) (((cR (fun z => holdsB (modelM v (z : Int)) l) 0 (2 ^ v) : Nat) : Int), true) := by
  obtain ⟨hv, hlit⟩ := GoodC_lits hg
  have h2 : 2 ^ v ≤ 2 ^ 12 := Nat.pow_le_pow_right (by decide) hv
  unfold impl_CountModels.f
  refine Ev.bind (goodCI _ l hl) (Ev.pos hg (Ev.bind (a := ((cR (fun z => holdsB (modelM v (z : Int)) l) 0 (2 ^ v) : Nat) : Int)) ?_ (Ev.now _)))
  unfold impl_countModels.f
  refine Ev.pos (by omega) ?_
  rw [shl_one v (by omega)]
  refine Ev.at_ (countT_loop v hv l hlit (2 ^ v) (by omega) (2 ^ v) 0 0 (by omega) (by omega)) ?_
  congr 1; omega
theorem tseitin_tail {l1 : List Int} (hb : Bytes l1) : Ev (fun k => (spec_DrawAlwaysSame.f k l1).bind fun bt604 => ((impl_AlwaysSame.f k bt604.1 bt604.2).bind fun bt610 => ((spec_AlwaysSame.f k bt604.1 bt604.2).bind fun bt612 => (if (bt610.2 == bt612.2) = true then (some (bt610.1 == bt612.1)) else (some false))))) true := by
  obtain ⟨p, e, h1, h2⟩ := drawAlways hb
  obtain ⟨r, hs, hi, _⟩ := always_both p.1 p.2 (by omega) (by omega)
  refine Ev.bind e (Ev.bind hi (Ev.bind hs (Ev.pos (by simp) (Ev.at_ (Ev.now _) (by simp)))))
theorem tseitin_loop {l1 : List Int} (hb : Bytes l1) (g : List S69) (hl : 1 ≤ g.length ∧ g.length ≤ 12) (hok : ∀ j (h : j < g.length), gok g[j] j) (hgood : Ev (fun k => impl_GoodGates.f k g) true) (T : Nat) (hT : T = cR (fun z => outM g (modelM (inps g).length (z : Int))) 0 (2 ^ (inps g).length)) : ∀ (d i m : Nat), i + d = 2 ^ (inps g).length → m ≤ i → m + cR (fun z => outM g (modelM (inps g).length (z : Int))) i d = T → Ev (fun k => laws_FnTseitin.l0 k l1 g (clausesM g) (decide (0 < T)) (inps g) (T : Int) (m : Int) (i : Int)) true := by
  have hlen := inps_len g
  have h2 : 2 ^ (inps g).length ≤ 2 ^ 12 := Nat.pow_le_pow_right (by decide) (by omega)
  have hgc := clausesM_good g hl hok
  have hrows := clausesM_rows g hl hok
  obtain ⟨_, hlit⟩ := GoodC_lits hgc
  intro d
  induction d with
  | zero =>
    intro i m hi hm hs
    have hs' : m = T := hs
    refine Ev.step (fun k => laws_FnTseitin.l0.eq_2 ..) ?_
    rw [u64_nat _ (by omega), shl_one _ (by omega)]
    refine Ev.pos (by omega) (Ev.neg (by omega) (Ev.pos (by omega) ?_))
    have e0 : decide (0 < T) = decide ((T : Int) > 0) := decide_eq_decide.2 (by omega)
    rw [hs', show (decide (0 < T) != decide ((T : Int) > 0)) = false by rw [e0]; simp]
    exact Ev.step (fun k => laws_FnTseitin.j4.eq_2 ..) (Ev.neg (by simp) (tseitin_tail hb))
  | succ d ih =>
    intro i m hi hm hs
    have hc : cR (fun z => outM g (modelM (inps g).length (z : Int))) i (d + 1) = (outM g (modelM (inps g).length (i : Int))).toNat + cR (fun z => outM g (modelM (inps g).length (z : Int))) (i + 1) d := rfl
    rw [hc] at hs
    have hml := modelM_len (inps g).length (i : Int)
    have hmo := modelOf_ev (inps g).length (by omega) (i : Int)
    have hev : Ev (fun k => impl_EvalGates.f k g (modelM (inps g).length (i : Int))) (evalM g (modelM (inps g).length (i : Int)), true) := by
      unfold impl_EvalGates.f
      exact Ev.bind hgood (Ev.pos rfl (Ev.bind (impl_inputs_ev g (by omega)) (Ev.pos (by omega) (Ev.bind (impl_eval_ev g _ (by omega) hok hml.symm) (Ev.now _)))))
    have hel := evalM_len g (modelM (inps g).length (i : Int))
    refine Ev.step (fun k => laws_FnTseitin.l0.eq_2 ..) ?_
    rw [u64_nat _ (by omega), shl_one _ (by omega)]
    refine Ev.pos (by omega) (Ev.pos (by omega) (Ev.bind hmo (Ev.bind hev (Ev.pos rfl (Ev.pos (by simp only; omega) ?_)))))
    rw [show ((g.length : Int) == 0) = false from beq_eq_false_iff_ne.mpr (by omega)]
    refine Ev.step (fun k => laws_FnTseitin.j3.eq_2 ..) (Ev.neg (by simp) ?_)
    rw [wrap_id ((g.length : Int) - 1) (by omega) (by omega), w1 i (by omega), w1 m (by omega)]
    refine Ev.pos (by omega) (Ev.pos (by show (g.length : Int) - 1 < ((evalM g (modelM (inps g).length (i : Int))).length : Int); omega) ?_)
    by_cases ho : outM g (modelM (inps g).length (i : Int)) = true
    · rw [ho, Bool.toNat_true] at hs
      have hcons := cons_eval g hok g.length (Nat.le_refl _) (modelM (inps g).length (i : Int)) (by rw [List.take_length]; exact hml)
      rw [List.take_length] at hcons
      have hsem : holdsB (evalM g (modelM (inps g).length (i : Int))) (clausesM g) = true := by
        rw [clausesM_sem g hl.1 hok, hcons.1, Bool.true_and]
        have h := ho
        unfold outM at h
        rw [rdOf_getD, show ((g.length : Int) - 1).toNat = g.length - 1 by omega] at h
        exact h
      have hh : Ev (fun k => impl_HoldsAll.f k (g.length : Int) (clausesM g) (evalM g (modelM (inps g).length (i : Int)))) (true, true) := by
        unfold impl_HoldsAll.f
        refine Ev.bind (goodCI _ _ hrows) (Ev.pos hgc (Ev.pos (by omega) (Ev.bind (holdsI g.length (by omega) _ hel (clausesM g) hlit) (Ev.at_ (Ev.now _) (by rw [hsem])))))
      have hby : Ev (fun k => impl_InputsBy.f k g (evalM g (modelM (inps g).length (i : Int)))) (modelM (inps g).length (i : Int), true) := by
        unfold impl_InputsBy.f
        refine Ev.bind hgood (Ev.pos rfl ?_)
        rw [show (((evalM g (modelM (inps g).length (i : Int))).length : Int) != (g.length : Int)) = false by simp [hel]]
        refine Ev.step (fun k => impl_InputsBy.j0.eq_2 ..) (Ev.neg (by simp) (Ev.bind (impl_inputs_ev _ (by omega)) ?_))
        have hx : ∀ x ∈ inps g, 0 ≤ x ∧ x < ((evalM g (modelM (inps g).length (i : Int))).length : Int) := fun x hx => by have := inpsFrom_mem g 0 x hx; omega
        have h := impl_InputsBy_loop (evalM g (modelM (inps g).length (i : Int))) (by omega) (inps g) hx (by omega) (inps g).length 0 [] (by omega) (by simp)
        rw [List.drop_zero, List.nil_append, hcons.2] at h
        exact h
      refine Ev.pos ho (Ev.bind hh (Ev.bind hby (Ev.pos rfl (Ev.pos rfl (Ev.pos rfl (Ev.bind hmo (Ev.bind (sameBools_self _ (by rw [hml]; omega)) (Ev.pos rfl ?_))))))))
      exact ih (i + 1) (m + 1) (by omega) (by omega) (by omega)
    · rw [Bool.eq_false_iff.mpr ho, Bool.toNat_false] at hs
      exact Ev.neg ho (ih (i + 1) m (by omega) (by omega) (by omega))
theorem FnTseitin : laws_FnTseitin.Pure := by
  intro l0 l1 _ y0 hw0 _ y1 hw1
  refine Ev.rounds ?_
  unfold laws_FnTseitin.f
  by_cases hlen : wrap64 ((l0.length : Int) + (l1.length : Int)) > 1048576
  · exact Ev.pos hlen (Ev.now _)
  refine Ev.neg hlen ?_
  obtain ⟨s0, s1⟩ := small_of hlen y0 y1
  have hb0 := bytes_of ⟨y0, hw0⟩ s0
  have hb1 := bytes_of ⟨y1, hw1⟩ s1
  obtain ⟨g, e, hgl⟩ := drawClausesOf hb0
  obtain ⟨r, hs, hi, hgo⟩ := goodGates_both g (by omega)
  have htail := tseitin_tail hb1
  cases r with
  | false =>
    have c1 : Ev (fun k => impl_ClausesOf.f k g) ([], false) := by unfold impl_ClausesOf.f; exact Ev.bind hi (Ev.neg (by simp) (Ev.now _))
    have c2 : Ev (fun k => spec_ClausesOf.f k g) ([], false) := by unfold spec_ClausesOf.f; exact Ev.bind hs (Ev.neg (by simp) (Ev.now _))
    have c3 : Ev (fun k => impl_CanBe.f k g) (false, [], false) := by unfold impl_CanBe.f; exact Ev.bind hi (Ev.neg (by simp) (Ev.now _))
    have c4 : Ev (fun k => spec_CanBe.f k g) (false, [], false) := by unfold spec_CanBe.f; exact Ev.bind hs (Ev.neg (by simp) (Ev.now _))
    refine Ev.bind e (Ev.bind c1 (Ev.bind c2 (Ev.bind c3 (Ev.bind c4 (Ev.neg (by simp) (Ev.bind (sameRows_self [] ⟨by simp, fun c hc => by simp at hc⟩) (Ev.pos rfl (Ev.neg (by simp) (Ev.neg (by simp) (Ev.bind (sameBools_self [] (by simp)) (Ev.pos rfl (Ev.bind hi ?_))))))))))))
    exact Ev.step (fun k => laws_FnTseitin.j0.eq_2 ..) (Ev.neg (by simp) (Ev.neg (by simp) htail))
  | true =>
    obtain ⟨hl, hok0⟩ := hgo rfl
    have hok : ∀ j (h : j < g.length), gok g[j] j := fun j hj => hok0 j hj (by omega)
    have hlen2 := inps_len g
    have hp : 2 ^ (inps g).length ≤ 2 ^ 12 := Nat.pow_le_pow_right (by decide) (by omega)
    have c1 : Ev (fun k => impl_ClausesOf.f k g) (clausesM g, true) := by
      unfold impl_ClausesOf.f
      have h := coI_loop g hl.2 hok g.length 0 [] (by omega) (by simp)
      rw [List.drop_zero, List.nil_append] at h
      exact Ev.bind hi (Ev.pos rfl h)
    have c2 : Ev (fun k => spec_ClausesOf.f k g) (clausesM g, true) := by
      unfold spec_ClausesOf.f
      have h := coS_loop g hl.2 hok g.length 0 [] (by omega) (by simp)
      rw [List.drop_zero, List.nil_append] at h
      exact Ev.bind hs (Ev.pos rfl h)
    obtain ⟨⟨b, v, o⟩, q1, q2, q3, q4, q5⟩ := canBe_val_loop g hl hok (2 ^ (inps g).length) 0 (by omega)
    simp only at q3 q4 q5
    subst q4
    have c3 : Ev (fun k => impl_CanBe.f k g) (b, v, true) := by
      unfold impl_CanBe.f
      refine Ev.bind hi (Ev.pos rfl (Ev.bind (impl_inputs_ev g (by omega)) ?_))
      rw [shl_one _ (by omega)]
      exact q2
    have c4 : Ev (fun k => spec_CanBe.f k g) (b, v, true) := by
      unfold spec_CanBe.f
      exact Ev.bind hs (Ev.pos rfl (Ev.bind (spec_l8Inputs_ev g (by omega)) q1))
    have c5 : Ev (fun k => impl_InputsOf.f k g) (inps g, true) := by
      unfold impl_InputsOf.f
      exact Ev.bind hi (Ev.pos rfl (Ev.bind (impl_inputs_ev g (by omega)) (Ev.now _)))
    have c6 := countT_val g.length (clausesM g) (clausesM_rows g hl hok) (clausesM_good g hl hok)
    rw [tseitin_count g hl hok] at c6
    have hloop := tseitin_loop hb1 g hl hok hi _ rfl (2 ^ (inps g).length) 0 0 (by omega) (by omega) (by omega)
    rw [← q3] at hloop
    refine Ev.bind e (Ev.bind c1 (Ev.bind c2 (Ev.bind c3 (Ev.bind c4 (Ev.neg (by simp) (Ev.bind (sameRows_self _ (clausesM_rows g hl hok)) (Ev.pos rfl (Ev.neg (by simp) (Ev.neg (by simp) (Ev.bind (sameBools_self v q5) (Ev.pos rfl (Ev.bind hi ?_))))))))))))
    refine Ev.step (fun k => laws_FnTseitin.j0.eq_2 ..) (Ev.neg (by simp) (Ev.pos rfl (Ev.bind c5 (Ev.bind c6 (Ev.pos rfl (Ev.pos rfl ?_))))))
    exact Ev.step (fun k => laws_FnTseitin.j1.eq_2 ..) (Ev.neg (by simp) hloop)
end Go.Proofs.Ytgahidilhjijiaa.Pure
