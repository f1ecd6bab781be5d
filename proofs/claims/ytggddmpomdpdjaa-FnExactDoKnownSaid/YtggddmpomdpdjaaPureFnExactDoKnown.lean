/- Proved here: the pure statement of the law FnExactDoKnown: what the printed functions compute answers true. Conditions: the statement's own bounds. -/
import Derived.Test.YtggddmpomdpdjaaPHQx1
import Derived.Test.YtggddmpomdpdjaaPHQx2
import Derived.Test.YtggddmpomdpdjaaPHQx3
import Derived.Test.YtggddmpomdpdjaaPHQx4
import Derived.Test.YtggddmpomdpdjaaPHQx5
namespace Go.Proofs.Ytggddmpomdpdjaa.Pure
open Go Go.RowKit Go.Proofs.Ytggddmpomdpdjaa.PHQ Go.Proofs.YtggddmpomdpdjaaW.PrintWords Go.Proofs.YtggddmpomdpdjaaW.PrintLast Go.Proofs.YtggddmpomdpdjaaW.PrintMore
set_option linter.unusedVariables false
set_option linter.unusedSimpArgs false

/-- A number lies between two. -/
def In (a lo hi : Int) : Bool := decide (lo ≤ a) && decide (a ≤ hi)
theorem In_true {a lo hi : Int} : In a lo hi = true ↔ lo ≤ a ∧ a ≤ hi := by simp [In]
theorem In_false {a lo hi : Int} : In a lo hi = false ↔ ¬ (lo ≤ a ∧ a ≤ hi) := by rw [← In_true]; simp
theorem In_ite {a lo hi : Int} : (if a ≥ lo then some (decide (a ≤ hi)) else some false) = some (In a lo hi) := by
  unfold In; by_cases h : lo ≤ a <;> simp [h]
theorem ite_some {α : Type} {c : Prop} [Decidable c] (a b : α) : (if c then some a else some b) = some (if c then a else b) := by split <;> rfl
theorem ne_self_bool (b : Bool) : ((b != b) = true) = False := by simp

theorem spec_l1In_eq (a b c : Int) : spec_l1In.f a b c = some (In a b c) := by unfold spec_l1In.f; exact In_ite

theorem impl_in_eq (a b c : Int) : impl_in.f a b c = some (In a b c) := by unfold impl_in.f; exact In_ite

theorem spec_l1Word_eq (a : Int) : spec_l1Word.f a = some (In a 0 65535) := by unfold spec_l1Word.f; rw [spec_l1In_eq]; rfl

theorem impl_isWord_eq (a : Int) : impl_isWord.f a = some (In a 0 65535) := by unfold impl_isWord.f; rw [impl_in_eq]; rfl

/-- The bits of a number that another one has not. -/
def andn (a b : Nat) : Nat := a ^^^ (a &&& b)
theorem testBit_andn (a b i : Nat) : (andn a b).testBit i = (a.testBit i && !b.testBit i) := by
  unfold andn; rw [Nat.testBit_xor, Nat.testBit_and]; cases a.testBit i <;> cases b.testBit i <;> rfl
theorem andn_le (a b : Nat) : andn a b ≤ a := by
  have h : andn a b &&& a = andn a b := by
    apply Nat.eq_of_testBit_eq; intro i; rw [Nat.testBit_and, testBit_andn]; cases a.testBit i <;> cases b.testBit i <;> rfl
  rw [← h]; exact Nat.and_le_right
theorem wrap_i64_nat (n : Nat) (h : n < 9223372036854775808) : IntKind.i64.wrap (n : Int) = n := by
  rw [IntKind.wrap_i64]; omega
theorem ofInt_nat (n : Nat) : BitVec.ofInt 64 (n : Int) = BitVec.ofNat 64 n := BitVec.ofInt_natCast 64 n
theorem bits_and (a b : Nat) (ha : a < 9223372036854775808) (hb : b < 9223372036854775808) : Go.bits .and .i64 a b = ((a &&& b : Nat) : Int) := by
  show IntKind.i64.wrap (((BitVec.ofInt 64 (a : Int)) &&& (BitVec.ofInt 64 (b : Int))).toNat : Int) = _
  rw [ofInt_nat, ofInt_nat, BitVec.toNat_and, BitVec.toNat_ofNat, BitVec.toNat_ofNat, Nat.mod_eq_of_lt (by omega), Nat.mod_eq_of_lt (by omega)]
  exact wrap_i64_nat _ (Nat.lt_of_le_of_lt Nat.and_le_left ha)
theorem or_lt63 {a b : Nat} (ha : a < 9223372036854775808) (hb : b < 9223372036854775808) : a ||| b < 9223372036854775808 := Nat.or_lt_two_pow (n := 63) ha hb
theorem xor_lt63 {a b : Nat} (ha : a < 9223372036854775808) (hb : b < 9223372036854775808) : a ^^^ b < 9223372036854775808 := Nat.xor_lt_two_pow (n := 63) ha hb
theorem bits_or (a b : Nat) (ha : a < 9223372036854775808) (hb : b < 9223372036854775808) : Go.bits .or .i64 a b = ((a ||| b : Nat) : Int) := by
  show IntKind.i64.wrap (((BitVec.ofInt 64 (a : Int)) ||| (BitVec.ofInt 64 (b : Int))).toNat : Int) = _
  rw [ofInt_nat, ofInt_nat, BitVec.toNat_or, BitVec.toNat_ofNat, BitVec.toNat_ofNat, Nat.mod_eq_of_lt (by omega), Nat.mod_eq_of_lt (by omega)]
  exact wrap_i64_nat _ (or_lt63 ha hb)
theorem bits_xor (a b : Nat) (ha : a < 9223372036854775808) (hb : b < 9223372036854775808) : Go.bits .xor .i64 a b = ((a ^^^ b : Nat) : Int) := by
  show IntKind.i64.wrap (((BitVec.ofInt 64 (a : Int)) ^^^ (BitVec.ofInt 64 (b : Int))).toNat : Int) = _
  rw [ofInt_nat, ofInt_nat, BitVec.toNat_xor, BitVec.toNat_ofNat, BitVec.toNat_ofNat, Nat.mod_eq_of_lt (by omega), Nat.mod_eq_of_lt (by omega)]
  exact wrap_i64_nat _ (xor_lt63 ha hb)
theorem bits_andNot (a b : Nat) (ha : a < 9223372036854775808) (hb : b < 9223372036854775808) : Go.bits .andNot .i64 a b = ((andn a b : Nat) : Int) := by
  show IntKind.i64.wrap (((BitVec.ofInt 64 (a : Int)) &&& ~~~ (BitVec.ofInt 64 (b : Int))).toNat : Int) = _
  rw [ofInt_nat, ofInt_nat]
  have h : (BitVec.ofNat 64 a &&& ~~~ BitVec.ofNat 64 b).toNat = andn a b := by
    apply Nat.eq_of_testBit_eq; intro i
    rw [testBit_andn]
    by_cases hi : i < 64
    · rw [BitVec.testBit_toNat, BitVec.getLsbD_and, BitVec.getLsbD_not, BitVec.getLsbD_ofNat, BitVec.getLsbD_ofNat]
      simp [hi]
    · have h1 : a.testBit i = false := Nat.testBit_lt_two_pow (Nat.lt_of_lt_of_le ha (by have := Nat.pow_le_pow_right (show 0 < 2 by decide) (show 63 ≤ i by omega); omega))
      rw [h1, BitVec.testBit_toNat, BitVec.getLsbD_of_ge _ _ (by omega)]; rfl
  rw [h]
  exact wrap_i64_nat _ (Nat.lt_of_le_of_lt (andn_le a b) ha)
theorem and_zero_bit {a b : Nat} (h : a &&& b = 0) (i : Nat) : (a.testBit i && b.testBit i) = false := by rw [← Nat.testBit_and, h]; simp
theorem nat_of {x hi : Int} (h : In x 0 hi = true) : ∃ n : Nat, x = (n : Int) ∧ (n : Int) ≤ hi := by
  have h := In_true.1 h
  exact ⟨x.toNat, by omega, by omega⟩

theorem word_or {a b : Nat} (ha : a < 65536) (hb : b < 65536) : a ||| b < 65536 := Nat.or_lt_two_pow (n := 16) ha hb
theorem word_xor {a b : Nat} (ha : a < 65536) (hb : b < 65536) : a ^^^ b < 65536 := Nat.xor_lt_two_pow (n := 16) ha hb
theorem word_and {a b : Nat} (ha : a < 65536) : a &&& b < 65536 := Nat.lt_of_le_of_lt Nat.and_le_left ha
theorem word_andn {a b : Nat} (ha : a < 65536) : andn a b < 65536 := Nat.lt_of_le_of_lt (andn_le a b) ha

theorem Ev.pos {α : Type} {c : Prop} [Decidable c] {A B : Nat → Option α} {r : α} (h : c) (e : Ev A r) : Ev (fun k => if c then A k else B k) r := Ev.congr (fun _ => if_pos h) e
theorem Ev.neg {α : Type} {c : Prop} [Decidable c] {A B : Nat → Option α} {r : α} (h : ¬ c) (e : Ev B r) : Ev (fun k => if c then A k else B k) r := Ev.congr (fun _ => if_neg h) e
theorem Ev.bindE {α β : Type} {g : Option α} {f : Nat → α → Option β} {a : α} {r : β} (h : g = some a) (k : Ev (fun n => f n a) r) : Ev (fun n => g.bind (f n)) r := by subst h; exact k
theorem Ev.at_ {α : Type} {g : Nat → Option α} {r r' : α} (h : Ev g r) (e : r = r') : Ev g r' := e ▸ h
theorem Ev.one {α : Type} {g : Nat → Option α} {r r' : α} (h : Ev g r) (h' : Ev g r') : r = r' := by
  obtain ⟨K, h⟩ := h; obtain ⟨K', h'⟩ := h'
  have a := h (max K K') (by omega); have b := h' (max K K') (by omega)
  rw [a] at b; exact Option.some.inj b
/-- Two texts come to one answer, of which P holds. -/
def Both {α : Type} (P : α → Prop) (g f : Nat → Option α) : Prop := ∃ r, Ev g r ∧ Ev f r ∧ P r
theorem Both.now {α : Type} {P : α → Prop} (r : α) (h : P r) : Both P (fun _ => some r) (fun _ => some r) := ⟨r, Ev.now r, Ev.now r, h⟩
theorem Both.now2 {α : Type} {P : α → Prop} (r r' : α) (e : r = r') (h : P r) : Both P (fun _ => some r) (fun _ => some r') := ⟨r, Ev.now r, e ▸ Ev.now r, h⟩
theorem Both.mono {α : Type} {P Q : α → Prop} {g f : Nat → Option α} (h : Both P g f) (hq : ∀ r, P r → Q r) : Both Q g f := by obtain ⟨r, a, b, c⟩ := h; exact ⟨r, a, b, hq r c⟩
theorem Both.congrL {α : Type} {P : α → Prop} {g g' f : Nat → Option α} (e : ∀ k, g k = g' k) (h : Both P g' f) : Both P g f := by obtain ⟨r, a, b, c⟩ := h; exact ⟨r, a.congr e, b, c⟩
theorem Both.congrR {α : Type} {P : α → Prop} {g f f' : Nat → Option α} (e : ∀ k, f k = f' k) (h : Both P g f') : Both P g f := by obtain ⟨r, a, b, c⟩ := h; exact ⟨r, a, b.congr e, c⟩
theorem Both.posL {α : Type} {P : α → Prop} {c : Prop} [Decidable c] {A B f : Nat → Option α} (h : c) (e : Both P A f) : Both P (fun k => if c then A k else B k) f := e.congrL (fun _ => if_pos h)
theorem Both.negL {α : Type} {P : α → Prop} {c : Prop} [Decidable c] {A B f : Nat → Option α} (h : ¬ c) (e : Both P B f) : Both P (fun k => if c then A k else B k) f := e.congrL (fun _ => if_neg h)
theorem Both.posR {α : Type} {P : α → Prop} {c : Prop} [Decidable c] {A B f : Nat → Option α} (h : c) (e : Both P f A) : Both P f (fun k => if c then A k else B k) := e.congrR (fun _ => if_pos h)
theorem Both.negR {α : Type} {P : α → Prop} {c : Prop} [Decidable c] {A B f : Nat → Option α} (h : ¬ c) (e : Both P f B) : Both P f (fun k => if c then A k else B k) := e.congrR (fun _ => if_neg h)
theorem Both.ite {α : Type} {P : α → Prop} {c : Prop} [Decidable c] {A B A' B' : Nat → Option α} (h1 : c → Both P A A') (h2 : ¬ c → Both P B B') : Both P (fun k => if c then A k else B k) (fun k => if c then A' k else B' k) := by
  by_cases h : c
  · exact ((h1 h).posL h).posR h
  · exact ((h2 h).negL h).negR h
theorem Both.stepL {α : Type} {P : α → Prop} {g g' f : Nat → Option α} (e : ∀ k, g (k + 1) = g' k) (h : Both P g' f) : Both P g f := by obtain ⟨r, a, b, c⟩ := h; exact ⟨r, a.step e, b, c⟩
theorem Both.stepR {α : Type} {P : α → Prop} {g f f' : Nat → Option α} (e : ∀ k, f (k + 1) = f' k) (h : Both P g f') : Both P g f := by obtain ⟨r, a, b, c⟩ := h; exact ⟨r, a, b.step e, c⟩
theorem Both.bindL {α β : Type} {P : β → Prop} {g : Nat → Option α} {F : Nat → α → Option β} {f : Nat → Option β} {a : α} (h : Ev g a) (e : Both P (fun k => F k a) f) : Both P (fun k => (g k).bind (F k)) f := by obtain ⟨r, x, y, c⟩ := e; exact ⟨r, Ev.bind h x, y, c⟩
theorem Both.bindR {α β : Type} {P : β → Prop} {g : Nat → Option α} {F : Nat → α → Option β} {f : Nat → Option β} {a : α} (h : Ev g a) (e : Both P f (fun k => F k a)) : Both P f (fun k => (g k).bind (F k)) := by obtain ⟨r, x, y, c⟩ := e; exact ⟨r, x, Ev.bind h y, c⟩
theorem Both.bindEL {α β : Type} {P : β → Prop} {g : Option α} {F : Nat → α → Option β} {f : Nat → Option β} {a : α} (h : g = some a) (e : Both P (fun k => F k a) f) : Both P (fun k => g.bind (F k)) f := by subst h; exact e
theorem Both.bindER {α β : Type} {P : β → Prop} {g : Option α} {F : Nat → α → Option β} {f : Nat → Option β} {a : α} (h : g = some a) (e : Both P f (fun k => F k a)) : Both P f (fun k => g.bind (F k)) := by subst h; exact e
theorem Both.bind2 {α β : Type} {P : β → Prop} {Q : α → Prop} {g g' : Nat → Option α} {F F' : Nat → α → Option β} (h : Both Q g g') (e : ∀ a, Q a → Both P (fun k => F k a) (fun k => F' k a)) : Both P (fun k => (g k).bind (F k)) (fun k => (g' k).bind (F' k)) := by
  obtain ⟨a, x, y, c⟩ := h
  exact ((e a c).bindL x).bindR y
theorem Both.self {α : Type} {P : α → Prop} {g : Nat → Option α} {r : α} (h : Ev g r) (p : P r) : Both P g g := ⟨r, h, h, p⟩
theorem w1 (i : Nat) (h : i < 4611686018427387904) : wrap64 ((i : Int) + 1) = ((i + 1 : Nat) : Int) := by unfold wrap64; omega
theorem wrap_id (x : Int) (h0 : -9223372036854775808 ≤ x) (h1 : x ≤ 9223372036854775807) : wrap64 x = x := by unfold wrap64; omega
theorem rd_nat (l : List Int) (i : Nat) (h : i < l.length) : rd l (i : Int) = l[i] := by unfold rd; simp [List.getD, h]
theorem rdOf_nat {α : Type} (d : α) (l : List α) (i : Nat) (h : i < l.length) : rdOf d l (i : Int) = l[i] := by unfold rdOf; simp [List.getD, h]
theorem set_take {α : Type} (l : List α) (i : Nat) (v : α) (h : i < l.length) : (l.set i v).take (i + 1) = l.take i ++ [v] := by
  rw [List.take_succ_eq_append_getElem (by simpa using h), List.take_set_of_le (Nat.le_refl i)]; simp

theorem u64_nat (i : Nat) (h : i < 9223372036854775808) : IntKind.u64.wrap (i : Int) = (i : Int) := by
  have : IntKind.u64.wrap (i : Int) = (i : Int) % 18446744073709551616 := by simp [IntKind.wrap, IntKind.bits, IntKind.signed]
  rw [this]; omega
theorem shl_one (n : Nat) (h : n ≤ 60) : shl .i64 1 (n : Int) = ((2 ^ n : Nat) : Int) := by
  have hb : IntKind.i64.bits = 64 := rfl
  unfold shl
  rw [Int.toNat_natCast, hb, Nat.min_eq_left (by omega), Int.one_mul]
  have h1 : 2 ^ n ≤ 2 ^ 60 := Nat.pow_le_pow_right (by decide) h
  have h2 : ((2 : Int) ^ n) = ((2 ^ n : Nat) : Int) := by rw [Int.natCast_pow]; rfl
  rw [h2]; exact wrap_i64_nat _ (by omega)
/-- Bit i of a number, as the programs read it. -/
def bitM (x : Int) (i : Nat) : Bool := Go.bits .and .i64 (shr .i64 x (i : Int)) 1 == 1
def modelM (n : Nat) (x : Int) : List Bool := (List.range n).map (fun i => bitM x i)
theorem modelM_len (n : Nat) (x : Int) : (modelM n x).length = n := by simp [modelM]

def GoodK (v m : Int) : Bool := In v 0 65535 && In m 0 65535 && (Go.bits .and .i64 v m == 0)
def GoodS (lo hi : Int) : Bool := In lo 0 65535 && In hi 0 65535 && decide (lo ≤ hi)

theorem toKnown_eq (a b : Int) : laws_toKnown.f a b = some (a, b) := rfl

theorem eqKnown_self (a b : Int) : laws_eqKnown.f a b a b = some true := by unfold laws_eqKnown.f; simp

theorem spec_GoodKnown_eq (a b : Int) : spec_GoodKnown.f a b = some (GoodK a b) := by
  unfold spec_GoodKnown.f GoodK; simp only [spec_l1Word_eq, Option.bind_some]
  cases In a 0 65535 <;> cases In b 0 65535 <;> simp

theorem impl_GoodKnown_eq (a b : Int) : impl_GoodKnown.f a b = some (GoodK a b) := by
  unfold impl_GoodKnown.f GoodK; simp only [impl_isWord_eq, Option.bind_some]
  cases In a 0 65535 <;> cases In b 0 65535 <;> simp

theorem impl_bothKnown_eq (a b c d : Int) : impl_bothKnown.f a b c d = some (GoodK a b && GoodK c d) := by
  unfold impl_bothKnown.f; simp only [impl_GoodKnown_eq, Option.bind_some]; cases GoodK a b <;> simp

def JoinK (a b c d : Int) : Int × Int := (Go.bits .andNot .i64 a (Go.bits .or .i64 (Go.bits .or .i64 b d) (Go.bits .xor .i64 a c)), Go.bits .or .i64 (Go.bits .or .i64 b d) (Go.bits .xor .i64 a c))

def JoinS (a b c d : Int) : Int × Int := (mn a c, mx b d)

def MeetS (a b c d : Int) : Int × Int × Bool := if mx a c > mn b d then (0, 0, false) else (mx a c, mn b d, true)

def LessS (a b c d : Int) : Int × Int × Int × Int × Bool := if a ≥ d then (0, 0, 0, 0, false) else (a, mn b (wrap64 (d - 1)), mx c (wrap64 (a + 1)), d, true)

theorem GoodK_nat {v m : Int} (h : GoodK v m = true) : ∃ a b : Nat, v = a ∧ m = b ∧ a < 65536 ∧ b < 65536 ∧ a &&& b = 0 := by
  unfold GoodK at h
  simp only [Bool.and_eq_true, beq_iff_eq] at h
  obtain ⟨⟨h1, h2⟩, h3⟩ := h
  obtain ⟨a, rfl, ha⟩ := nat_of h1
  obtain ⟨b, rfl, hb⟩ := nat_of h2
  rw [bits_and a b (by omega) (by omega)] at h3
  exact ⟨a, b, rfl, rfl, by omega, by omega, by omega⟩

theorem and_pow (m j : Nat) : m &&& 2 ^ j = if m.testBit j = true then 2 ^ j else 0 := by
  apply Nat.eq_of_testBit_eq
  intro i
  rw [Nat.testBit_and]
  by_cases h : i = j
  · subst h
    by_cases hb : m.testBit i = true
    · rw [if_pos hb, hb, Nat.testBit_two_pow_self]; rfl
    · rw [if_neg hb]; simp only [Bool.not_eq_true] at hb; rw [hb, Nat.zero_testBit]; rfl
  · rw [Nat.testBit_two_pow_of_ne (by omega), Bool.and_false]
    split
    · rw [Nat.testBit_two_pow_of_ne (by omega)]
    · rw [Nat.zero_testBit]
theorem add_orp {a p : Nat} (ha : a < 65536) (hp : p ≤ 32768) (hz : a &&& p = 0) : a + p = a ||| p := by
  have := BitVec.add_eq_or_of_and_eq_zero (BitVec.ofNat 64 a) (BitVec.ofNat 64 p) (by
    apply BitVec.eq_of_toNat_eq
    rw [BitVec.toNat_and, BitVec.toNat_ofNat, BitVec.toNat_ofNat, Nat.mod_eq_of_lt (by omega), Nat.mod_eq_of_lt (by omega), hz]; rfl)
  have := congrArg BitVec.toNat this
  rw [BitVec.toNat_add, BitVec.toNat_or, BitVec.toNat_ofNat, BitVec.toNat_ofNat, Nat.mod_eq_of_lt (show a < 2 ^ 64 by omega), Nat.mod_eq_of_lt (show p < 2 ^ 64 by omega), Nat.mod_eq_of_lt (by omega)] at this
  exact this
theorem pow15 {j : Nat} (hj : j < 16) : 2 ^ j ≤ 32768 := Nat.pow_le_pow_right (n := 2) (show 2 > 0 by decide) (show j ≤ 15 by omega)
theorem pow16 {j : Nat} (hj : j ≤ 16) : 2 ^ j ≤ 65536 := Nat.pow_le_pow_right (n := 2) (show 2 > 0 by decide) hj
theorem add_or {a j : Nat} (ha : a < 65536) (hj : j < 16) (h : a.testBit j = false) : a + 2 ^ j = a ||| 2 ^ j :=
  add_orp ha (pow15 hj) (by rw [and_pow, h]; simp)
theorem or_ltp {a p : Nat} (ha : a < 65536) (hp : p ≤ 32768) : a ||| p < 65536 := word_or ha (by omega)
/-- The bits of n laid to the places of a mask, from place j on. -/
def deposit (m : Nat) : Nat → Nat → Nat → Nat → Nat
  | 0, _, _, out => out
  | d + 1, j, n, out => if m.testBit j = true then deposit m d (j + 1) (n / 2) (out + n % 2 * 2 ^ j) else deposit m d (j + 1) n out

theorem GoodS_nat {a b : Int} (h : GoodS a b = true) : 0 ≤ a ∧ a ≤ 65535 ∧ 0 ≤ b ∧ b ≤ 65535 ∧ a ≤ b := by
  unfold GoodS In at h
  simp only [Bool.and_eq_true, decide_eq_true_eq] at h
  omega
theorem tmod_word (x : Int) : (0 ≤ x ∧ Int.tmod x 65536 = x % 65536) ∨ (x < 0 ∧ Int.tmod x 65536 = -((-x) % 65536)) := by
  by_cases h : 0 ≤ x
  · exact Or.inl ⟨h, Int.tmod_eq_emod_of_nonneg h⟩
  · refine Or.inr ⟨by omega, ?_⟩
    have := Int.neg_tmod (-x) 65536
    rw [Int.neg_neg] at this
    rw [this, Int.tmod_eq_emod_of_nonneg (by omega)]
theorem word_wrap (x : Int) : Int.tmod (wrap64 ((Int.tmod x 65536) + 65536)) 65536 = x % 65536 := by
  rcases tmod_word x with ⟨h, e⟩ | ⟨h, e⟩
  · rw [e, wrap_id _ (by omega) (by omega), Int.tmod_eq_emod_of_nonneg (by omega)]; omega
  · rw [e, wrap_id _ (by omega) (by omega), Int.tmod_eq_emod_of_nonneg (by omega)]; omega
theorem bits_word (x : Int) : Go.bits .and .i64 x 65535 = x % 65536 := by
  show IntKind.i64.wrap (((BitVec.ofInt 64 x) &&& (BitVec.ofInt 64 65535)).toNat : Int) = _
  rw [BitVec.toNat_and, BitVec.toNat_ofInt, show (BitVec.ofInt 64 65535).toNat = 2 ^ 16 - 1 by decide, Nat.and_two_pow_sub_one_eq_mod]
  generalize h : (x % ((2 ^ 64 : Nat) : Int)).toNat = n
  rw [wrap_i64_nat _ (by omega)]
  omega
theorem wrap_i64 (y : Int) : IntKind.i64.wrap y = wrap64 y := by
  rw [IntKind.wrap_i64]; unfold wrap64; omega
theorem shl_nat (x : Int) (n : Nat) (h : n ≤ 60) : shl .i64 x (n : Int) = wrap64 (x * ((2 ^ n : Nat) : Int)) := by
  unfold shl
  have e : min (n : Int).toNat IntKind.i64.bits = n := by
    show min (n : Int).toNat 64 = n
    omega
  rw [e, Int.natCast_pow]
  exact wrap_i64 _
theorem shr_nat (x : Int) (n : Nat) (h : n ≤ 60) : shr .i64 x (n : Int) = x / ((2 ^ n : Nat) : Int) := by
  unfold shr
  have e : min (n : Int).toNat IntKind.i64.bits = n := by
    show min (n : Int).toNat 64 = n
    omega
  rw [e, Int.natCast_pow]; rfl
theorem mul_word {a b : Int} (h0 : 0 ≤ a) (h1 : a ≤ 65535) (h2 : 0 ≤ b) (h3 : b ≤ 65535) : 0 ≤ a * b ∧ a * b ≤ 4294836225 := ⟨Int.mul_nonneg h0 h2, Int.mul_le_mul h1 h3 h2 (by omega)⟩

theorem spec_l1Wrap_eq (x : Int) : spec_l1Wrap.f x = some (x % 65536) := by unfold spec_l1Wrap.f; rw [word_wrap]

theorem impl_WordOf_eq (x : Int) : impl_WordOf.f x = some (x % 65536) := by unfold impl_WordOf.f; rw [bits_word]

def EndsM (x y : Int) : Int × Int := if x / 65536 = y / 65536 then (x % 65536, y % 65536) else (0, 65535)

theorem shift_lo {b : Int} (h0 : 0 ≤ b) (h1 : b ≤ 65535) : ∃ n : Nat, n < 16 ∧ Int.tmod b 16 = (n : Int) ∧ IntKind.u64.wrap (Int.tmod b 16) = (n : Int) := by
  refine ⟨(b % 16).toNat, by omega, ?_, ?_⟩
  · rw [Int.tmod_eq_emod_of_nonneg h0]; omega
  · rw [Int.tmod_eq_emod_of_nonneg h0, show IntKind.u64.wrap (b % 16) = b % 16 from ?_]
    · omega
    · obtain ⟨m, hm⟩ := Int.eq_ofNat_of_zero_le (show 0 ≤ b % 16 by omega)
      rw [hm]; exact u64_nat m (by omega)
theorem pow_word {n : Nat} (h : n < 16) : 1 ≤ ((2 ^ n : Nat) : Int) ∧ ((2 ^ n : Nat) : Int) ≤ 32768 := by
  have h1 : 2 ^ n ≤ 32768 := Nat.pow_le_pow_right (n := 2) (show 2 > 0 by decide) (show n ≤ 15 by omega)
  have h2 := Nat.two_pow_pos n
  generalize 2 ^ n = p at h1 h2 ⊢
  omega

theorem impl_isOp_eq (o : Int) : impl_isOp.f o = some (In o 1 10) := by unfold impl_isOp.f; rw [impl_in_eq]; rfl

theorem do_eq (o a b : Int) (h0 : 0 ≤ b) (h1 : b ≤ 65535) : impl_do.f o a b = spec_l1Do.f o a b := by
  obtain ⟨n, hn, t1, t2⟩ := shift_lo h0 h1
  unfold impl_do.f spec_l1Do.f
  rw [t2, t1]
  simp only [impl_WordOf_eq, spec_l1Wrap_eq]
theorem spec_l1Do_some (o a b : Int) (h0 : 0 ≤ b) (h1 : b ≤ 65535) : ∃ r, spec_l1Do.f o a b = some r := by
  obtain ⟨n, hn, t1, t2⟩ := shift_lo h0 h1
  unfold spec_l1Do.f
  rw [t2]
  simp only [spec_l1Wrap_eq]
  repeat (first | exact ⟨_, rfl⟩ | split)
  all_goals omega

def mayN (v m x : Nat) : Nat := if x = 1 then v ||| m else andn 65535 v
theorem mayN_lt {v m x : Nat} (hv : v < 65536) (hm : m < 65536) : mayN v m x < 65536 := by
  unfold mayN; split
  · exact word_or hv hm
  · exact word_andn (by omega)

theorem may_eq (v m x : Nat) (hx : x < 2) (hv : v < 65536) (hm : m < 65536) : impl_Known_may.f v m x = some ((mayN v m x : Nat) : Int) := by
  unfold impl_Known_may.f mayN
  rw [bits_or v m (by omega) (by omega), show (65535 : Int) = ((65535 : Nat) : Int) from rfl, bits_andNot 65535 v (by omega) (by omega)]
  by_cases h : x = 1
  · rw [if_pos (by omega), if_pos h]
  · rw [if_neg (by omega), if_neg h]

theorem bw_step {o : Int} {v m w n z s x y t : Nat} {r : Int × Int} (hx : x < 2) (hy : y < 2) (hv : v < 65536) (hm : m < 65536) (hw : w < 65536) (hn : n < 65536) (hz : z < 65536) (hs : s < 65536) (ht : impl_do.f o x y = some (t : Int))
    (h : Ev (fun k => impl_bitwise.l1 k o ((if t = 1 then z else z ||| (mayN v m x &&& mayN w n y) : Nat) : Int) ((if t = 1 then s ||| (mayN v m x &&& mayN w n y) else s : Nat) : Int) x x ((y + 1 : Nat) : Int) v m w n) r) :
    Ev (fun k => impl_bitwise.l1 k o z s x x y v m w n) r := by
  have h1 := mayN_lt (x := x) hv hm
  have h2 := mayN_lt (x := y) hw hn
  have h3 := word_and (b := mayN w n y) h1
  refine Ev.step (fun k => impl_bitwise.l1.eq_2 ..) (Ev.pos (by omega) <| Ev.bindE (may_eq v m x hx hv hm) <| Ev.bindE (may_eq w n y hy hw hn) <| Ev.bindE ht ?_)
  have e : wrap64 ((y : Int) + 1) = ((y + 1 : Nat) : Int) := w1 y (by omega)
  by_cases h1 : t = 1
  · refine Ev.pos (by omega) ?_
    rw [if_pos h1, if_pos h1] at h
    rw [e, bits_and _ _ (by omega) (by omega), bits_or _ _ (by omega) (by omega)]; exact h
  · refine Ev.neg (by omega) ?_
    rw [if_neg h1, if_neg h1] at h
    rw [e, bits_and _ _ (by omega) (by omega), bits_or _ _ (by omega) (by omega)]; exact h
def bwZ (t z b : Nat) : Nat := if t = 1 then z else z ||| b
def bwS (t s b : Nat) : Nat := if t = 1 then s ||| b else s
theorem bwZ_lt {t z b : Nat} (hz : z < 65536) (hb : b < 65536) : bwZ t z b < 65536 := by
  unfold bwZ; split
  · exact hz
  · exact word_or hz hb
theorem bwS_lt {t z b : Nat} (hz : z < 65536) (hb : b < 65536) : bwS t z b < 65536 := by
  unfold bwS; split
  · exact word_or hz hb
  · exact hz
theorem bw_row {o : Int} {v m w n z s x t0 t1 : Nat} {r : Int × Int} (hx : x < 2) (hv : v < 65536) (hm : m < 65536) (hw : w < 65536) (hn : n < 65536) (hz : z < 65536) (hs : s < 65536) (h0 : impl_do.f o x 0 = some (t0 : Int)) (h1 : impl_do.f o x 1 = some (t1 : Int))
    (h : Ev (fun k => impl_bitwise.l0 k o ((bwZ t1 (bwZ t0 z (mayN v m x &&& mayN w n 0)) (mayN v m x &&& mayN w n 1) : Nat) : Int) ((bwS t1 (bwS t0 s (mayN v m x &&& mayN w n 0)) (mayN v m x &&& mayN w n 1) : Nat) : Int) ((x + 1 : Nat) : Int) v m w n) r) :
    Ev (fun k => impl_bitwise.l0 k o z s x v m w n) r := by
  refine Ev.step (fun k => impl_bitwise.l0.eq_2 ..) (Ev.pos (by omega) ?_)
  have a0 := word_and (b := mayN w n 0) (mayN_lt (x := x) hv hm)
  refine bw_step (y := 0) hx (by decide) hv hm hw hn hz hs h0 ?_
  refine bw_step (y := 1) hx (by decide) hv hm hw hn (bwZ_lt (t := t0) hz a0) (bwS_lt (t := t0) hs a0) h1 ?_
  refine Ev.step (fun k => impl_bitwise.l1.eq_2 ..) (Ev.neg (by decide) ?_)
  rw [w1 x (by omega)]
  exact h
theorem bw_ev {o : Int} {v m w n t0 t1 t2 t3 : Nat} (hv : v < 65536) (hm : m < 65536) (hw : w < 65536) (hn : n < 65536) (h0 : impl_do.f o 0 0 = some (t0 : Int)) (h1 : impl_do.f o 0 1 = some (t1 : Int)) (h2 : impl_do.f o 1 0 = some (t2 : Int)) (h3 : impl_do.f o 1 1 = some (t3 : Int)) :
    let b0 := mayN v m 0 &&& mayN w n 0; let b1 := mayN v m 0 &&& mayN w n 1; let b2 := mayN v m 1 &&& mayN w n 0; let b3 := mayN v m 1 &&& mayN w n 1
    let z := bwZ t3 (bwZ t2 (bwZ t1 (bwZ t0 0 b0) b1) b2) b3; let s := bwS t3 (bwS t2 (bwS t1 (bwS t0 0 b0) b1) b2) b3
    Ev (fun k => impl_bitwise.f k o v m w n) (((andn s (z &&& s) : Nat) : Int), ((z &&& s : Nat) : Int)) := by
  intro b0 b1 b2 b3 z s
  have k0 : b0 < 65536 := word_and (mayN_lt hv hm)
  have k1 : b1 < 65536 := word_and (mayN_lt hv hm)
  have k2 : b2 < 65536 := word_and (mayN_lt hv hm)
  have k3 : b3 < 65536 := word_and (mayN_lt hv hm)
  have kz1 : bwZ t1 (bwZ t0 0 b0) b1 < 65536 := bwZ_lt (bwZ_lt (by decide) k0) k1
  have ks1 : bwS t1 (bwS t0 0 b0) b1 < 65536 := bwS_lt (bwS_lt (by decide) k0) k1
  have kz : z < 65536 := bwZ_lt (bwZ_lt kz1 k2) k3
  have ks : s < 65536 := bwS_lt (bwS_lt ks1 k2) k3
  have kzs : z &&& s < 65536 := word_and kz
  unfold impl_bitwise.f
  refine bw_row (z := 0) (s := 0) (x := 0) (by decide) hv hm hw hn (by decide) (by decide) h0 h1 ?_
  refine bw_row (x := 1) (by decide) hv hm hw hn kz1 ks1 h2 h3 ?_
  refine Ev.step (fun k => impl_bitwise.l0.eq_2 ..) (Ev.neg (by decide) ?_)
  show Ev (fun _ => (impl_known.f (s : Int) (Go.bits .and .i64 (z : Int) (s : Int))).bind fun t => some (t.1, t.2)) _
  rw [bits_and z s (by omega) (by omega)]
  unfold impl_known.f
  rw [bits_andNot s (z &&& s) (by omega) (by omega)]
  exact Ev.now _
theorem pair_nat {a b c d : Nat} (h1 : a = c) (h2 : b = d) : ((a : Int), (b : Int)) = ((c : Int), (d : Int)) := by rw [h1, h2]
theorem bit_big {x i : Nat} (hx : x < 65536) (hi : Nat.testBit 65535 i = false) : x.testBit i = false := by
  have h := Nat.testBit_two_pow_sub_one 16 i
  rw [show 2 ^ 16 - 1 = 65535 from rfl, hi] at h
  have h16 : ¬ i < 16 := by simpa using h.symm
  exact Nat.testBit_lt_two_pow (Nat.lt_of_lt_of_le hx (Nat.pow_le_pow_right (n := 2) (show 2 > 0 by decide) (show 16 ≤ i by omega)))

theorem bits_ev (o : Int) (ho : o = 6 ∨ o = 7 ∨ o = 8) {a b c d : Int} (h1 : GoodK a b = true) (h2 : GoodK c d = true) : ∃ r, spec_l10Bits.f o a b c d = some r ∧ Ev (fun k => impl_bitwise.f k o a b c d) r := by
  obtain ⟨a, b, rfl, rfl, ha, hb, hab⟩ := GoodK_nat h1
  obtain ⟨c, d, rfl, rfl, hc, hd, hcd⟩ := GoodK_nat h2
  have hac := word_and (b := c) ha
  have oac := word_or ha hc
  have oab := word_or ha hb
  have ocd := word_or hc hd
  have obd := word_or hb hd
  have xac := word_xor ha hc
  have oo := word_and (b := c ||| d) oab
  have big : ∀ i, Nat.testBit 65535 i = false → a.testBit i = false ∧ b.testBit i = false ∧ c.testBit i = false ∧ d.testBit i = false := fun i h => ⟨bit_big ha h, bit_big hb h, bit_big hc h, bit_big hd h⟩
  rcases ho with rfl | rfl | rfl
  · have e := bw_ev (o := 6) (t0 := 0) (t1 := 0) (t2 := 0) (t3 := 1) ha hb hc hd (by decide) (by decide) (by decide) (by decide)
    refine ⟨_, rfl, Ev.at_ e ?_⟩
    rw [bits_and a c (by omega) (by omega), bits_or a b (by omega) (by omega), bits_or c d (by omega) (by omega), bits_and _ _ (by omega) (by omega), bits_andNot _ _ (by omega) (by omega)]
    refine pair_nat ?_ ?_
    all_goals
      apply Nat.eq_of_testBit_eq; intro i
      have k1 := and_zero_bit hab i
      have k2 := and_zero_bit hcd i
      have k3 := big i
      simp only [bwZ, bwS, mayN, testBit_andn, Nat.testBit_or, Nat.testBit_and, if_true, if_false, Nat.zero_testBit, reduceIte, Nat.reduceEqDiff, Nat.zero_ne_one, Nat.one_ne_zero]
      revert k1 k2 k3
      cases Nat.testBit 65535 i <;> cases a.testBit i <;> cases b.testBit i <;> cases c.testBit i <;> cases d.testBit i <;> simp
  · have e := bw_ev (o := 7) (t0 := 0) (t1 := 1) (t2 := 1) (t3 := 1) ha hb hc hd (by decide) (by decide) (by decide) (by decide)
    refine ⟨_, rfl, Ev.at_ e ?_⟩
    rw [bits_or a c (by omega) (by omega), bits_or b d (by omega) (by omega), bits_andNot _ _ (by omega) (by omega)]
    refine pair_nat ?_ ?_
    all_goals
      apply Nat.eq_of_testBit_eq; intro i
      have k1 := and_zero_bit hab i
      have k2 := and_zero_bit hcd i
      have k3 := big i
      simp only [bwZ, bwS, mayN, testBit_andn, Nat.testBit_or, Nat.testBit_and, if_true, if_false, Nat.zero_testBit, reduceIte, Nat.reduceEqDiff, Nat.zero_ne_one, Nat.one_ne_zero]
      revert k1 k2 k3
      cases Nat.testBit 65535 i <;> cases a.testBit i <;> cases b.testBit i <;> cases c.testBit i <;> cases d.testBit i <;> simp
  · have e := bw_ev (o := 8) (t0 := 0) (t1 := 1) (t2 := 1) (t3 := 0) ha hb hc hd (by decide) (by decide) (by decide) (by decide)
    refine ⟨_, rfl, Ev.at_ e ?_⟩
    rw [bits_xor a c (by omega) (by omega), bits_or b d (by omega) (by omega), bits_andNot _ _ (by omega) (by omega)]
    refine pair_nat ?_ ?_
    all_goals
      apply Nat.eq_of_testBit_eq; intro i
      have k1 := and_zero_bit hab i
      have k2 := and_zero_bit hcd i
      have k3 := big i
      simp only [bwZ, bwS, mayN, testBit_andn, Nat.testBit_or, Nat.testBit_and, Nat.testBit_xor, if_true, if_false, Nat.zero_testBit, reduceIte, Nat.reduceEqDiff, Nat.zero_ne_one, Nat.one_ne_zero]
      revert k1 k2 k3
      cases Nat.testBit 65535 i <;> cases a.testBit i <;> cases b.testBit i <;> cases c.testBit i <;> cases d.testBit i <;> simp

theorem doK_j1 (o : Int) (x : Bool) {a b c d : Int} (h1 : GoodK a b = true) (h2 : GoodK c d = true) : Both (fun _ => True) (fun k => spec_l10Do.j1 k o x a b c d) (fun k => impl_doKnown.j1 k o x a b c d) := by
  obtain ⟨c', d', hc0, hd0, hc, hd, _⟩ := GoodK_nat h2
  obtain ⟨r1, e1⟩ := spec_l1Do_some o a c (by omega) (by omega)
  obtain ⟨r2, e2⟩ := spec_l1Do_some o b c (by omega) (by omega)
  have f1 := (do_eq o a c (by omega) (by omega)).trans e1
  have f2 := (do_eq o b c (by omega) (by omega)).trans e2
  refine Both.stepL (fun k => spec_l10Do.j1.eq_2 ..) (Both.stepR (fun k => impl_doKnown.j1.eq_2 ..) (Both.ite (fun _ => ?_) (fun _ => ?_)))
  · refine Both.ite (fun _ => ?_) (fun _ => ?_)
    · exact Both.bindEL e1 (Both.bindEL e2 (Both.bindER f1 (Both.bindER f2 (Both.now _ trivial))))
    · by_cases hb : b = 0
      · exact Both.posL hb (Both.now (0, 65535) trivial)
      · exact Both.negL hb (Both.now (0, 65535) trivial)
  · refine Both.ite (fun hb => ?_) (fun hb => ?_)
    · refine Both.stepR (fun k => impl_doKnown.j2.eq_2 ..) ?_
      by_cases hd : d = 0
      · exact Both.posL hd (Both.posR (by rw [hd]; rfl) (Both.bindEL e1 (Both.bindER f1 (Both.now (r1, 0) trivial))))
      · exact Both.negL hd (Both.negR (by rw [beq_iff_eq]; exact hd) (Both.now (0, 65535) trivial))
    · exact Both.stepR (fun k => impl_doKnown.j2.eq_2 ..) (Both.negR (by simp) (Both.now (0, 65535) trivial))
theorem doK_j0 (o : Int) (x : Bool) (hx : x = true → o = 6 ∨ o = 7 ∨ o = 8) {a b c d : Int} (h1 : GoodK a b = true) (h2 : GoodK c d = true) : Both (fun _ => True) (fun k => spec_l10Do.j0 k o o x a b c d) (fun k => impl_doKnown.j0 k o o x a b c d) := by
  refine Both.stepL (fun k => spec_l10Do.j0.eq_2 ..) (Both.stepR (fun k => impl_doKnown.j0.eq_2 ..) (Both.ite (fun h => ?_) (fun _ => ?_)))
  · obtain ⟨r, e1, e2⟩ := bits_ev o (hx h) h1 h2
    exact Both.bindEL e1 (Both.bindR e2 (Both.now _ trivial))
  refine Both.ite (fun _ => ?_) (fun _ => ?_)
  · refine Both.bindEL (spec_l1Wrap_eq ..) (Both.bindER (impl_WordOf_eq ..) ?_)
    refine Both.bindEL (spec_l1Wrap_eq ..) (Both.bindER (impl_WordOf_eq ..) ?_)
    exact Both.now _ trivial
  refine Both.ite (fun _ => ?_) (fun _ => ?_)
  · refine Both.bindEL (spec_l1Wrap_eq ..) (Both.bindER (impl_WordOf_eq ..) ?_)
    refine Both.bindEL (spec_l1Wrap_eq ..) (Both.bindER (impl_WordOf_eq ..) ?_)
    refine Both.bindEL (spec_l1Wrap_eq ..) (Both.bindER (impl_WordOf_eq ..) ?_)
    exact Both.now _ trivial
  exact Both.ite (fun _ => doK_j1 o _ h1 h2) (fun _ => doK_j1 o _ h1 h2)
theorem doK_ev (o : Int) {a b c d : Int} (h1 : GoodK a b = true) (h2 : GoodK c d = true) : Both (fun _ => True) (fun k => spec_l10Do.f k o a b c d) (fun k => impl_doKnown.f k o a b c d) := by
  unfold spec_l10Do.f impl_doKnown.f
  exact Both.ite (fun h => doK_j0 o _ (fun _ => Or.inl h) h1 h2) (fun _ => Both.ite (fun h => doK_j0 o _ (fun _ => Or.inr (Or.inl h)) h1 h2) (fun _ => doK_j0 o _ (fun h => Or.inr (Or.inr (beq_iff_eq.1 h))) h1 h2))

theorem DoKnown_ev (o a b c d : Int) : ∃ r, Ev (fun k => spec_DoKnown.f k o a b c d) r ∧ Ev (fun k => impl_DoKnown.f k o a b c d) r := by
  suffices h : Both (fun _ => True) (fun k => spec_DoKnown.f k o a b c d) (fun k => impl_DoKnown.f k o a b c d) by
    obtain ⟨r, h1, h2, _⟩ := h; exact ⟨r, h1, h2⟩
  unfold spec_DoKnown.f impl_DoKnown.f
  refine Both.bindEL (spec_l1In_eq ..) (Both.bindER (impl_isOp_eq ..) (Both.ite (fun _ => ?_) (fun _ => Both.now _ trivial)))
  refine Both.bindEL (spec_GoodKnown_eq ..) (Both.bindER (impl_bothKnown_eq ..) ?_)
  by_cases h1 : GoodK a b = true
  · refine Both.posL h1 (Both.bindEL (spec_GoodKnown_eq ..) ?_)
    by_cases h2 : GoodK c d = true
    · exact Both.posL h2 (Both.posR (by rw [h1, h2]; rfl) (Both.bind2 (doK_ev o h1 h2) (fun r _ => Both.now _ trivial)))
    · exact Both.negL h2 (Both.negR (by rw [Bool.and_eq_true]; exact fun h => h2 h.2) (Both.now _ trivial))
  · exact Both.negL h1 (Both.negR (by rw [Bool.and_eq_true]; exact fun h => h1 h.1) (Both.now _ trivial))

theorem FnExactDoKnown : laws_FnExactDoKnown.Pure := by
  intro o a b c d _ _ _ _ _
  refine Ev.rounds ?_
  obtain ⟨r, h1, h2⟩ := DoKnown_ev o a b c d
  unfold laws_FnExactDoKnown.f
  exact Ev.bindE rfl <| Ev.bindE rfl <| Ev.bind h1 <| Ev.bindE rfl <| Ev.bindE rfl <| Ev.bind h2 <| Ev.bindE (eqKnown_self ..) <| Ev.pos rfl <| Ev.neg (by simp) (Ev.now _)

end Go.Proofs.Ytggddmpomdpdjaa.Pure
