/- Proved here: the pure statement of the law FnStretches: what the printed functions compute answers true. Conditions: the statement's own bounds. -/
import Derived.Test.YtggddmpomdpdjaaPFSx2
import Derived.Test.YtggddmpomdpdjaaPFSx3
import Derived.Test.YtggddmpomdpdjaaPFSx4
import Derived.Test.YtggddmpomdpdjaaPFSx5
import Derived.Test.YtggddmpomdpdjaaPFSx6
import Derived.Test.YtggddmpomdpdjaaPFSx7
namespace Go.Proofs.Ytggddmpomdpdjaa.Pure
open Go Go.RowKit Go.Proofs.Ytggddmpomdpdjaa.PFS Go.Proofs.YtggddmpomdpdjaaW.PrintWords Go.Proofs.YtggddmpomdpdjaaW.PrintLast Go.Proofs.YtggddmpomdpdjaaW.PrintMore
set_option linter.unusedVariables false
set_option linter.unusedSimpArgs false

/-- A number lies between two. -/
def In (a lo hi : Int) : Bool := decide (lo ≤ a) && decide (a ≤ hi)
theorem In_true {a lo hi : Int} : In a lo hi = true ↔ lo ≤ a ∧ a ≤ hi := by simp [In]
theorem In_false {a lo hi : Int} : In a lo hi = false ↔ ¬ (lo ≤ a ∧ a ≤ hi) := by rw [← In_true]; simp
theorem In_ite {a lo hi : Int} : (if a ≥ lo then some (decide (a ≤ hi)) else some false) = some (In a lo hi) := by
  unfold In; by_cases h : lo ≤ a <;> simp [h]
theorem ite_some {α : Type} {c : Prop} [Decidable c] (a b : α) : (if c then some a else some b) = some (if c then a else b) := by split <;> rfl
theorem ne_self_bool (b : Bool) : ((b != b) = true) = False := by simp

theorem spec_l1In_eq (a b c : Int) : spec_l1In.f a b c = some (In a b c) := by unfold spec_l1In.f; exact In_ite

theorem impl_in_eq (a b c : Int) : impl_in.f a b c = some (In a b c) := by unfold impl_in.f; exact In_ite

theorem spec_l1Word_eq (a : Int) : spec_l1Word.f a = some (In a 0 65535) := by unfold spec_l1Word.f; rw [spec_l1In_eq]; rfl

theorem impl_isWord_eq (a : Int) : impl_isWord.f a = some (In a 0 65535) := by unfold impl_isWord.f; rw [impl_in_eq]; rfl

theorem spec_l1Least_eq (a b : Int) : spec_l1Least.f a b = some (mn a b) := by
  unfold spec_l1Least.f mn; (repeat' split) <;> first | rfl | (congr 1; omega)

theorem spec_l1Most_eq (a b : Int) : spec_l1Most.f a b = some (mx a b) := by
  unfold spec_l1Most.f mx; (repeat' split) <;> first | rfl | (congr 1; omega)

/-- The bits of a number that another one has not. -/
def andn (a b : Nat) : Nat := a ^^^ (a &&& b)
theorem testBit_andn (a b i : Nat) : (andn a b).testBit i = (a.testBit i && !b.testBit i) := by
  unfold andn; rw [Nat.testBit_xor, Nat.testBit_and]; cases a.testBit i <;> cases b.testBit i <;> rfl
theorem andn_le (a b : Nat) : andn a b ≤ a := by
  have h : andn a b &&& a = andn a b := by
    apply Nat.eq_of_testBit_eq; intro i; rw [Nat.testBit_and, testBit_andn]; cases a.testBit i <;> cases b.testBit i <;> rfl
  rw [← h]; exact Nat.and_le_right
theorem wrap_i64_nat (n : Nat) (h : n < 9223372036854775808) : IntKind.i64.wrap (n : Int) = n := by
  rw [IntKind.wrap_i64]; omega
theorem ofInt_nat (n : Nat) : BitVec.ofInt 64 (n : Int) = BitVec.ofNat 64 n := BitVec.ofInt_natCast 64 n
theorem bits_and (a b : Nat) (ha : a < 9223372036854775808) (hb : b < 9223372036854775808) : Go.bits .and .i64 a b = ((a &&& b : Nat) : Int) := by
  show IntKind.i64.wrap (((BitVec.ofInt 64 (a : Int)) &&& (BitVec.ofInt 64 (b : Int))).toNat : Int) = _
  rw [ofInt_nat, ofInt_nat, BitVec.toNat_and, BitVec.toNat_ofNat, BitVec.toNat_ofNat, Nat.mod_eq_of_lt (by omega), Nat.mod_eq_of_lt (by omega)]
  exact wrap_i64_nat _ (Nat.lt_of_le_of_lt Nat.and_le_left ha)
theorem or_lt63 {a b : Nat} (ha : a < 9223372036854775808) (hb : b < 9223372036854775808) : a ||| b < 9223372036854775808 := Nat.or_lt_two_pow (n := 63) ha hb
theorem xor_lt63 {a b : Nat} (ha : a < 9223372036854775808) (hb : b < 9223372036854775808) : a ^^^ b < 9223372036854775808 := Nat.xor_lt_two_pow (n := 63) ha hb
theorem bits_or (a b : Nat) (ha : a < 9223372036854775808) (hb : b < 9223372036854775808) : Go.bits .or .i64 a b = ((a ||| b : Nat) : Int) := by
  show IntKind.i64.wrap (((BitVec.ofInt 64 (a : Int)) ||| (BitVec.ofInt 64 (b : Int))).toNat : Int) = _
  rw [ofInt_nat, ofInt_nat, BitVec.toNat_or, BitVec.toNat_ofNat, BitVec.toNat_ofNat, Nat.mod_eq_of_lt (by omega), Nat.mod_eq_of_lt (by omega)]
  exact wrap_i64_nat _ (or_lt63 ha hb)
theorem bits_xor (a b : Nat) (ha : a < 9223372036854775808) (hb : b < 9223372036854775808) : Go.bits .xor .i64 a b = ((a ^^^ b : Nat) : Int) := by
  show IntKind.i64.wrap (((BitVec.ofInt 64 (a : Int)) ^^^ (BitVec.ofInt 64 (b : Int))).toNat : Int) = _
  rw [ofInt_nat, ofInt_nat, BitVec.toNat_xor, BitVec.toNat_ofNat, BitVec.toNat_ofNat, Nat.mod_eq_of_lt (by omega), Nat.mod_eq_of_lt (by omega)]
  exact wrap_i64_nat _ (xor_lt63 ha hb)
theorem bits_andNot (a b : Nat) (ha : a < 9223372036854775808) (hb : b < 9223372036854775808) : Go.bits .andNot .i64 a b = ((andn a b : Nat) : Int) := by
  show IntKind.i64.wrap (((BitVec.ofInt 64 (a : Int)) &&& ~~~ (BitVec.ofInt 64 (b : Int))).toNat : Int) = _
  rw [ofInt_nat, ofInt_nat]
  have h : (BitVec.ofNat 64 a &&& ~~~ BitVec.ofNat 64 b).toNat = andn a b := by
    apply Nat.eq_of_testBit_eq; intro i
    rw [testBit_andn]
    by_cases hi : i < 64
    · rw [BitVec.testBit_toNat, BitVec.getLsbD_and, BitVec.getLsbD_not, BitVec.getLsbD_ofNat, BitVec.getLsbD_ofNat]
      simp [hi]
    · have h1 : a.testBit i = false := Nat.testBit_lt_two_pow (Nat.lt_of_lt_of_le ha (by have := Nat.pow_le_pow_right (show 0 < 2 by decide) (show 63 ≤ i by omega); omega))
      rw [h1, BitVec.testBit_toNat, BitVec.getLsbD_of_ge _ _ (by omega)]; rfl
  rw [h]
  exact wrap_i64_nat _ (Nat.lt_of_le_of_lt (andn_le a b) ha)
theorem and_zero_bit {a b : Nat} (h : a &&& b = 0) (i : Nat) : (a.testBit i && b.testBit i) = false := by rw [← Nat.testBit_and, h]; simp
theorem nat_of {x hi : Int} (h : In x 0 hi = true) : ∃ n : Nat, x = (n : Int) ∧ (n : Int) ≤ hi := by
  have h := In_true.1 h
  exact ⟨x.toNat, by omega, by omega⟩

theorem word_or {a b : Nat} (ha : a < 65536) (hb : b < 65536) : a ||| b < 65536 := Nat.or_lt_two_pow (n := 16) ha hb
theorem word_xor {a b : Nat} (ha : a < 65536) (hb : b < 65536) : a ^^^ b < 65536 := Nat.xor_lt_two_pow (n := 16) ha hb
theorem word_and {a b : Nat} (ha : a < 65536) : a &&& b < 65536 := Nat.lt_of_le_of_lt Nat.and_le_left ha
theorem word_andn {a b : Nat} (ha : a < 65536) : andn a b < 65536 := Nat.lt_of_le_of_lt (andn_le a b) ha

theorem Ev.pos {α : Type} {c : Prop} [Decidable c] {A B : Nat → Option α} {r : α} (h : c) (e : Ev A r) : Ev (fun k => if c then A k else B k) r := Ev.congr (fun _ => if_pos h) e
theorem Ev.neg {α : Type} {c : Prop} [Decidable c] {A B : Nat → Option α} {r : α} (h : ¬ c) (e : Ev B r) : Ev (fun k => if c then A k else B k) r := Ev.congr (fun _ => if_neg h) e
theorem Ev.bindE {α β : Type} {g : Option α} {f : Nat → α → Option β} {a : α} {r : β} (h : g = some a) (k : Ev (fun n => f n a) r) : Ev (fun n => g.bind (f n)) r := by subst h; exact k
theorem Ev.at_ {α : Type} {g : Nat → Option α} {r r' : α} (h : Ev g r) (e : r = r') : Ev g r' := e ▸ h
theorem Ev.one {α : Type} {g : Nat → Option α} {r r' : α} (h : Ev g r) (h' : Ev g r') : r = r' := by
  obtain ⟨K, h⟩ := h; obtain ⟨K', h'⟩ := h'
  have a := h (max K K') (by omega); have b := h' (max K K') (by omega)
  rw [a] at b; exact Option.some.inj b
/-- Two texts come to one answer, of which P holds. -/
def Both {α : Type} (P : α → Prop) (g f : Nat → Option α) : Prop := ∃ r, Ev g r ∧ Ev f r ∧ P r
theorem Both.now {α : Type} {P : α → Prop} (r : α) (h : P r) : Both P (fun _ => some r) (fun _ => some r) := ⟨r, Ev.now r, Ev.now r, h⟩
theorem Both.now2 {α : Type} {P : α → Prop} (r r' : α) (e : r = r') (h : P r) : Both P (fun _ => some r) (fun _ => some r') := ⟨r, Ev.now r, e ▸ Ev.now r, h⟩
theorem Both.mono {α : Type} {P Q : α → Prop} {g f : Nat → Option α} (h : Both P g f) (hq : ∀ r, P r → Q r) : Both Q g f := by obtain ⟨r, a, b, c⟩ := h; exact ⟨r, a, b, hq r c⟩
theorem Both.congrL {α : Type} {P : α → Prop} {g g' f : Nat → Option α} (e : ∀ k, g k = g' k) (h : Both P g' f) : Both P g f := by obtain ⟨r, a, b, c⟩ := h; exact ⟨r, a.congr e, b, c⟩
theorem Both.congrR {α : Type} {P : α → Prop} {g f f' : Nat → Option α} (e : ∀ k, f k = f' k) (h : Both P g f') : Both P g f := by obtain ⟨r, a, b, c⟩ := h; exact ⟨r, a, b.congr e, c⟩
theorem Both.posL {α : Type} {P : α → Prop} {c : Prop} [Decidable c] {A B f : Nat → Option α} (h : c) (e : Both P A f) : Both P (fun k => if c then A k else B k) f := e.congrL (fun _ => if_pos h)
theorem Both.negL {α : Type} {P : α → Prop} {c : Prop} [Decidable c] {A B f : Nat → Option α} (h : ¬ c) (e : Both P B f) : Both P (fun k => if c then A k else B k) f := e.congrL (fun _ => if_neg h)
theorem Both.posR {α : Type} {P : α → Prop} {c : Prop} [Decidable c] {A B f : Nat → Option α} (h : c) (e : Both P f A) : Both P f (fun k => if c then A k else B k) := e.congrR (fun _ => if_pos h)
theorem Both.negR {α : Type} {P : α → Prop} {c : Prop} [Decidable c] {A B f : Nat → Option α} (h : ¬ c) (e : Both P f B) : Both P f (fun k => if c then A k else B k) := e.congrR (fun _ => if_neg h)
theorem Both.ite {α : Type} {P : α → Prop} {c : Prop} [Decidable c] {A B A' B' : Nat → Option α} (h1 : c → Both P A A') (h2 : ¬ c → Both P B B') : Both P (fun k => if c then A k else B k) (fun k => if c then A' k else B' k) := by
  by_cases h : c
  · exact ((h1 h).posL h).posR h
  · exact ((h2 h).negL h).negR h
theorem Both.stepL {α : Type} {P : α → Prop} {g g' f : Nat → Option α} (e : ∀ k, g (k + 1) = g' k) (h : Both P g' f) : Both P g f := by obtain ⟨r, a, b, c⟩ := h; exact ⟨r, a.step e, b, c⟩
theorem Both.stepR {α : Type} {P : α → Prop} {g f f' : Nat → Option α} (e : ∀ k, f (k + 1) = f' k) (h : Both P g f') : Both P g f := by obtain ⟨r, a, b, c⟩ := h; exact ⟨r, a, b.step e, c⟩
theorem Both.bindL {α β : Type} {P : β → Prop} {g : Nat → Option α} {F : Nat → α → Option β} {f : Nat → Option β} {a : α} (h : Ev g a) (e : Both P (fun k => F k a) f) : Both P (fun k => (g k).bind (F k)) f := by obtain ⟨r, x, y, c⟩ := e; exact ⟨r, Ev.bind h x, y, c⟩
theorem Both.bindR {α β : Type} {P : β → Prop} {g : Nat → Option α} {F : Nat → α → Option β} {f : Nat → Option β} {a : α} (h : Ev g a) (e : Both P f (fun k => F k a)) : Both P f (fun k => (g k).bind (F k)) := by obtain ⟨r, x, y, c⟩ := e; exact ⟨r, x, Ev.bind h y, c⟩
theorem Both.bindEL {α β : Type} {P : β → Prop} {g : Option α} {F : Nat → α → Option β} {f : Nat → Option β} {a : α} (h : g = some a) (e : Both P (fun k => F k a) f) : Both P (fun k => g.bind (F k)) f := by subst h; exact e
theorem Both.bindER {α β : Type} {P : β → Prop} {g : Option α} {F : Nat → α → Option β} {f : Nat → Option β} {a : α} (h : g = some a) (e : Both P f (fun k => F k a)) : Both P f (fun k => g.bind (F k)) := by subst h; exact e
theorem Both.bind2 {α β : Type} {P : β → Prop} {Q : α → Prop} {g g' : Nat → Option α} {F F' : Nat → α → Option β} (h : Both Q g g') (e : ∀ a, Q a → Both P (fun k => F k a) (fun k => F' k a)) : Both P (fun k => (g k).bind (F k)) (fun k => (g' k).bind (F' k)) := by
  obtain ⟨a, x, y, c⟩ := h
  exact ((e a c).bindL x).bindR y
theorem Both.self {α : Type} {P : α → Prop} {g : Nat → Option α} {r : α} (h : Ev g r) (p : P r) : Both P g g := ⟨r, h, h, p⟩
theorem w1 (i : Nat) (h : i < 4611686018427387904) : wrap64 ((i : Int) + 1) = ((i + 1 : Nat) : Int) := by unfold wrap64; omega
theorem wrap_id (x : Int) (h0 : -9223372036854775808 ≤ x) (h1 : x ≤ 9223372036854775807) : wrap64 x = x := by unfold wrap64; omega
theorem rd_nat (l : List Int) (i : Nat) (h : i < l.length) : rd l (i : Int) = l[i] := by unfold rd; simp [List.getD, h]
theorem rdOf_nat {α : Type} (d : α) (l : List α) (i : Nat) (h : i < l.length) : rdOf d l (i : Int) = l[i] := by unfold rdOf; simp [List.getD, h]
theorem set_take {α : Type} (l : List α) (i : Nat) (v : α) (h : i < l.length) : (l.set i v).take (i + 1) = l.take i ++ [v] := by
  rw [List.take_succ_eq_append_getElem (by simpa using h), List.take_set_of_le (Nat.le_refl i)]; simp

theorem u64_nat (i : Nat) (h : i < 9223372036854775808) : IntKind.u64.wrap (i : Int) = (i : Int) := by
  have : IntKind.u64.wrap (i : Int) = (i : Int) % 18446744073709551616 := by simp [IntKind.wrap, IntKind.bits, IntKind.signed]
  rw [this]; omega
theorem shl_one (n : Nat) (h : n ≤ 60) : shl .i64 1 (n : Int) = ((2 ^ n : Nat) : Int) := by
  have hb : IntKind.i64.bits = 64 := rfl
  unfold shl
  rw [Int.toNat_natCast, hb, Nat.min_eq_left (by omega), Int.one_mul]
  have h1 : 2 ^ n ≤ 2 ^ 60 := Nat.pow_le_pow_right (by decide) h
  have h2 : ((2 : Int) ^ n) = ((2 ^ n : Nat) : Int) := by rw [Int.natCast_pow]; rfl
  rw [h2]; exact wrap_i64_nat _ (by omega)
/-- Bit i of a number, as the programs read it. -/
def bitM (x : Int) (i : Nat) : Bool := Go.bits .and .i64 (shr .i64 x (i : Int)) 1 == 1
def modelM (n : Nat) (x : Int) : List Bool := (List.range n).map (fun i => bitM x i)
theorem modelM_len (n : Nat) (x : Int) : (modelM n x).length = n := by simp [modelM]

def GoodK (v m : Int) : Bool := In v 0 65535 && In m 0 65535 && (Go.bits .and .i64 v m == 0)
def GoodS (lo hi : Int) : Bool := In lo 0 65535 && In hi 0 65535 && decide (lo ≤ hi)

theorem spec_GoodStretch_eq (a b : Int) : spec_GoodStretch.f a b = some (GoodS a b) := by
  unfold spec_GoodStretch.f GoodS; simp only [spec_l1Word_eq, Option.bind_some]
  cases In a 0 65535 <;> cases In b 0 65535 <;> simp

theorem impl_GoodStretch_eq (a b : Int) : impl_GoodStretch.f a b = some (GoodS a b) := by
  unfold impl_GoodStretch.f GoodS; simp only [impl_isWord_eq, Option.bind_some]
  cases In a 0 65535 <;> cases In b 0 65535 <;> simp

theorem spec_l9Two_eq (a b c d : Int) : spec_l9Two.f a b c d = some (GoodS a b && GoodS c d) := by
  unfold spec_l9Two.f; simp only [spec_GoodStretch_eq, Option.bind_some]; cases GoodS a b <;> simp

theorem impl_two_eq (a b c d : Int) : impl_two.f a b c d = some (GoodS a b && GoodS c d) := by
  unfold impl_two.f; simp only [impl_GoodStretch_eq, Option.bind_some]; cases GoodS a b <;> simp

theorem spec_InStretch_eq (a b n : Int) : spec_InStretch.f a b n = some (if GoodS a b && In n 0 65535 then (In n a b, true) else (false, false)) := by
  unfold spec_InStretch.f; simp only [spec_GoodStretch_eq, spec_l1Word_eq, spec_l1In_eq, Option.bind_some]
  cases GoodS a b <;> cases In n 0 65535 <;> simp

theorem impl_InStretch_eq (a b n : Int) : impl_InStretch.f a b n = some (if GoodS a b && In n 0 65535 then (In n a b, true) else (false, false)) := by
  unfold impl_InStretch.f; simp only [impl_GoodStretch_eq, impl_isWord_eq, impl_in_eq, Option.bind_some]
  cases GoodS a b <;> cases In n 0 65535 <;> simp

theorem spec_SizeOf_eq (a b : Int) : spec_SizeOf.f a b = some (if GoodS a b then (wrap64 (wrap64 (b - a) + 1), true) else (0, false)) := by
  unfold spec_SizeOf.f; simp only [spec_GoodStretch_eq, Option.bind_some]; cases GoodS a b <;> simp

theorem impl_SizeOf_eq (a b : Int) : impl_SizeOf.f a b = some (if GoodS a b then (wrap64 (wrap64 (b - a) + 1), true) else (0, false)) := by
  unfold impl_SizeOf.f; simp only [impl_GoodStretch_eq, Option.bind_some]; cases GoodS a b <;> simp

def JoinK (a b c d : Int) : Int × Int := (Go.bits .andNot .i64 a (Go.bits .or .i64 (Go.bits .or .i64 b d) (Go.bits .xor .i64 a c)), Go.bits .or .i64 (Go.bits .or .i64 b d) (Go.bits .xor .i64 a c))

def JoinS (a b c d : Int) : Int × Int := (mn a c, mx b d)

def MeetS (a b c d : Int) : Int × Int × Bool := if mx a c > mn b d then (0, 0, false) else (mx a c, mn b d, true)

def LessS (a b c d : Int) : Int × Int × Int × Int × Bool := if a ≥ d then (0, 0, 0, 0, false) else (a, mn b (wrap64 (d - 1)), mx c (wrap64 (a + 1)), d, true)

theorem GoodK_nat {v m : Int} (h : GoodK v m = true) : ∃ a b : Nat, v = a ∧ m = b ∧ a < 65536 ∧ b < 65536 ∧ a &&& b = 0 := by
  unfold GoodK at h
  simp only [Bool.and_eq_true, beq_iff_eq] at h
  obtain ⟨⟨h1, h2⟩, h3⟩ := h
  obtain ⟨a, rfl, ha⟩ := nat_of h1
  obtain ⟨b, rfl, hb⟩ := nat_of h2
  rw [bits_and a b (by omega) (by omega)] at h3
  exact ⟨a, b, rfl, rfl, by omega, by omega, by omega⟩

theorem and_pow (m j : Nat) : m &&& 2 ^ j = if m.testBit j = true then 2 ^ j else 0 := by
  apply Nat.eq_of_testBit_eq
  intro i
  rw [Nat.testBit_and]
  by_cases h : i = j
  · subst h
    by_cases hb : m.testBit i = true
    · rw [if_pos hb, hb, Nat.testBit_two_pow_self]; rfl
    · rw [if_neg hb]; simp only [Bool.not_eq_true] at hb; rw [hb, Nat.zero_testBit]; rfl
  · rw [Nat.testBit_two_pow_of_ne (by omega), Bool.and_false]
    split
    · rw [Nat.testBit_two_pow_of_ne (by omega)]
    · rw [Nat.zero_testBit]
theorem add_orp {a p : Nat} (ha : a < 65536) (hp : p ≤ 32768) (hz : a &&& p = 0) : a + p = a ||| p := by
  have := BitVec.add_eq_or_of_and_eq_zero (BitVec.ofNat 64 a) (BitVec.ofNat 64 p) (by
    apply BitVec.eq_of_toNat_eq
    rw [BitVec.toNat_and, BitVec.toNat_ofNat, BitVec.toNat_ofNat, Nat.mod_eq_of_lt (by omega), Nat.mod_eq_of_lt (by omega), hz]; rfl)
  have := congrArg BitVec.toNat this
  rw [BitVec.toNat_add, BitVec.toNat_or, BitVec.toNat_ofNat, BitVec.toNat_ofNat, Nat.mod_eq_of_lt (show a < 2 ^ 64 by omega), Nat.mod_eq_of_lt (show p < 2 ^ 64 by omega), Nat.mod_eq_of_lt (by omega)] at this
  exact this
theorem pow15 {j : Nat} (hj : j < 16) : 2 ^ j ≤ 32768 := Nat.pow_le_pow_right (n := 2) (show 2 > 0 by decide) (show j ≤ 15 by omega)
theorem pow16 {j : Nat} (hj : j ≤ 16) : 2 ^ j ≤ 65536 := Nat.pow_le_pow_right (n := 2) (show 2 > 0 by decide) hj
theorem add_or {a j : Nat} (ha : a < 65536) (hj : j < 16) (h : a.testBit j = false) : a + 2 ^ j = a ||| 2 ^ j :=
  add_orp ha (pow15 hj) (by rw [and_pow, h]; simp)
theorem or_ltp {a p : Nat} (ha : a < 65536) (hp : p ≤ 32768) : a ||| p < 65536 := word_or ha (by omega)
/-- The bits of n laid to the places of a mask, from place j on. -/
def deposit (m : Nat) : Nat → Nat → Nat → Nat → Nat
  | 0, _, _, out => out
  | d + 1, j, n, out => if m.testBit j = true then deposit m d (j + 1) (n / 2) (out + n % 2 * 2 ^ j) else deposit m d (j + 1) n out

theorem GoodS_nat {a b : Int} (h : GoodS a b = true) : 0 ≤ a ∧ a ≤ 65535 ∧ 0 ≤ b ∧ b ≤ 65535 ∧ a ≤ b := by
  unfold GoodS In at h
  simp only [Bool.and_eq_true, decide_eq_true_eq] at h
  omega
theorem tmod_word (x : Int) : (0 ≤ x ∧ Int.tmod x 65536 = x % 65536) ∨ (x < 0 ∧ Int.tmod x 65536 = -((-x) % 65536)) := by
  by_cases h : 0 ≤ x
  · exact Or.inl ⟨h, Int.tmod_eq_emod_of_nonneg h⟩
  · refine Or.inr ⟨by omega, ?_⟩
    have := Int.neg_tmod (-x) 65536
    rw [Int.neg_neg] at this
    rw [this, Int.tmod_eq_emod_of_nonneg (by omega)]
theorem word_wrap (x : Int) : Int.tmod (wrap64 ((Int.tmod x 65536) + 65536)) 65536 = x % 65536 := by
  rcases tmod_word x with ⟨h, e⟩ | ⟨h, e⟩
  · rw [e, wrap_id _ (by omega) (by omega), Int.tmod_eq_emod_of_nonneg (by omega)]; omega
  · rw [e, wrap_id _ (by omega) (by omega), Int.tmod_eq_emod_of_nonneg (by omega)]; omega
theorem bits_word (x : Int) : Go.bits .and .i64 x 65535 = x % 65536 := by
  show IntKind.i64.wrap (((BitVec.ofInt 64 x) &&& (BitVec.ofInt 64 65535)).toNat : Int) = _
  rw [BitVec.toNat_and, BitVec.toNat_ofInt, show (BitVec.ofInt 64 65535).toNat = 2 ^ 16 - 1 by decide, Nat.and_two_pow_sub_one_eq_mod]
  generalize h : (x % ((2 ^ 64 : Nat) : Int)).toNat = n
  rw [wrap_i64_nat _ (by omega)]
  omega
theorem wrap_i64 (y : Int) : IntKind.i64.wrap y = wrap64 y := by
  rw [IntKind.wrap_i64]; unfold wrap64; omega
theorem shl_nat (x : Int) (n : Nat) (h : n ≤ 60) : shl .i64 x (n : Int) = wrap64 (x * ((2 ^ n : Nat) : Int)) := by
  unfold shl
  have e : min (n : Int).toNat IntKind.i64.bits = n := by
    show min (n : Int).toNat 64 = n
    omega
  rw [e, Int.natCast_pow]
  exact wrap_i64 _
theorem shr_nat (x : Int) (n : Nat) (h : n ≤ 60) : shr .i64 x (n : Int) = x / ((2 ^ n : Nat) : Int) := by
  unfold shr
  have e : min (n : Int).toNat IntKind.i64.bits = n := by
    show min (n : Int).toNat 64 = n
    omega
  rw [e, Int.natCast_pow]; rfl
theorem mul_word {a b : Int} (h0 : 0 ≤ a) (h1 : a ≤ 65535) (h2 : 0 ≤ b) (h3 : b ≤ 65535) : 0 ≤ a * b ∧ a * b ≤ 4294836225 := ⟨Int.mul_nonneg h0 h2, Int.mul_le_mul h1 h3 h2 (by omega)⟩

theorem spec_l1Wrap_eq (x : Int) : spec_l1Wrap.f x = some (x % 65536) := by unfold spec_l1Wrap.f; rw [word_wrap]

theorem impl_WordOf_eq (x : Int) : impl_WordOf.f x = some (x % 65536) := by unfold impl_WordOf.f; rw [bits_word]

theorem spec_l9Floor_eq (x : Int) (h0 : -1000000000000 ≤ x) (h1 : x ≤ 1000000000000) : spec_l9Floor.f x = some (x / 65536) := by
  unfold spec_l9Floor.f
  rw [spec_l1Wrap_eq]
  show some _ = some _
  rw [wrap_id (x - x % 65536) (by omega) (by omega)]
  have : Int.tdiv (x - x % 65536) 65536 = x / 65536 := by
    rw [Int.tdiv_eq_ediv_of_dvd (by omega)]; omega
  rw [this, wrap_id _ (by omega) (by omega)]

def EndsM (x y : Int) : Int × Int := if x / 65536 = y / 65536 then (x % 65536, y % 65536) else (0, 65535)

theorem spec_l9Ends_eq (x y : Int) (h0 : -1000000000000 ≤ x) (h1 : x ≤ 1000000000000) (h2 : -1000000000000 ≤ y) (h3 : y ≤ 1000000000000) : spec_l9Ends.f x y = some (EndsM x y) := by
  unfold spec_l9Ends.f EndsM
  rw [spec_l9Floor_eq x h0 h1, spec_l9Floor_eq y h2 h3, spec_l1Wrap_eq, spec_l1Wrap_eq]
  show (if _ then some _ else some _) = _
  exact ite_some _ _

theorem impl_wrap_eq (x y : Int) : impl_wrap.f x y = some (EndsM x y) := by
  unfold impl_wrap.f EndsM
  rw [impl_WordOf_eq, impl_WordOf_eq]
  show (if _ then some _ else some _) = _
  exact ite_some _ _

theorem ones_loop (n : Int) (hn : n ≤ 65535) : ∀ (d : Nat) (x : Int), 0 ≤ x → x ≤ 200000 → n - x ≤ d → ∃ r, Ev (fun k => spec_l9Ones.l0 k n x) r ∧ Ev (fun k => impl_ones.l0 k n x) r
  | 0, x, h0, h1, h2 => ⟨x, Ev.step (fun k => spec_l9Ones.l0.eq_2 ..) (Ev.neg (by omega) (Ev.now _)), Ev.step (fun k => impl_ones.l0.eq_2 ..) (Ev.neg (by omega) (Ev.now _))⟩
  | d + 1, x, h0, h1, h2 => by
    by_cases h : x < n
    · obtain ⟨r, e1, e2⟩ := ones_loop n hn d (wrap64 (wrap64 (2 * x) + 1)) (by rw [wrap_id (2 * x) (by omega) (by omega), wrap_id _ (by omega) (by omega)]; omega) (by rw [wrap_id (2 * x) (by omega) (by omega), wrap_id _ (by omega) (by omega)]; omega) (by rw [wrap_id (2 * x) (by omega) (by omega), wrap_id _ (by omega) (by omega)]; omega)
      exact ⟨r, Ev.step (fun k => spec_l9Ones.l0.eq_2 ..) (Ev.pos h e1), Ev.step (fun k => impl_ones.l0.eq_2 ..) (Ev.pos h e2)⟩
    · exact ⟨x, Ev.step (fun k => spec_l9Ones.l0.eq_2 ..) (Ev.neg h (Ev.now _)), Ev.step (fun k => impl_ones.l0.eq_2 ..) (Ev.neg h (Ev.now _))⟩
theorem ones_ev (n : Int) (hn : n ≤ 65535) : ∃ r, Ev (fun k => spec_l9Ones.f k n) r ∧ Ev (fun k => impl_ones.f k n) r := by
  unfold spec_l9Ones.f impl_ones.f
  exact ones_loop n hn 65536 0 (by omega) (by omega) (by omega)

theorem shift_lo {b : Int} (h0 : 0 ≤ b) (h1 : b ≤ 65535) : ∃ n : Nat, n < 16 ∧ Int.tmod b 16 = (n : Int) ∧ IntKind.u64.wrap (Int.tmod b 16) = (n : Int) := by
  refine ⟨(b % 16).toNat, by omega, ?_, ?_⟩
  · rw [Int.tmod_eq_emod_of_nonneg h0]; omega
  · rw [Int.tmod_eq_emod_of_nonneg h0, show IntKind.u64.wrap (b % 16) = b % 16 from ?_]
    · omega
    · obtain ⟨m, hm⟩ := Int.eq_ofNat_of_zero_le (show 0 ≤ b % 16 by omega)
      rw [hm]; exact u64_nat m (by omega)
theorem pow_word {n : Nat} (h : n < 16) : 1 ≤ ((2 ^ n : Nat) : Int) ∧ ((2 ^ n : Nat) : Int) ≤ 32768 := by
  have h1 : 2 ^ n ≤ 32768 := Nat.pow_le_pow_right (n := 2) (show 2 > 0 by decide) (show n ≤ 15 by omega)
  have h2 := Nat.two_pow_pos n
  generalize 2 ^ n = p at h1 h2 ⊢
  omega

theorem doStretch_ev (o a b c d : Int) (hs : GoodS a b = true) (ht : GoodS c d = true) : Both (fun _ => True) (fun k => spec_l9Do.f k o a b c d) (fun k => impl_stretched.f k o a b c d) := by
  obtain ⟨a0, a1, b0, b1, ab⟩ := GoodS_nat hs
  obtain ⟨c0, c1, d0, d1, cd⟩ := GoodS_nat ht
  obtain ⟨n, hn, t1, t2⟩ := shift_lo c0 c1
  obtain ⟨p1, p2⟩ := pow_word hn
  have ends : ∀ x y, -1000000000000 ≤ x → x ≤ 1000000000000 → -1000000000000 ≤ y → y ≤ 1000000000000 → Both (fun _ => True) (fun _ : Nat => (spec_l9Ends.f x y).bind fun t => some (t.1, t.2)) (fun _ : Nat => (impl_wrap.f x y).bind fun t => some (t.1, t.2)) :=
    fun x y h0 h1 h2 h3 => Both.bindEL (spec_l9Ends_eq x y h0 h1 h2 h3) (Both.bindER (impl_wrap_eq x y) (Both.now _ trivial))
  have w : ∀ x : Int, -1000000000000 ≤ x → x ≤ 1000000000000 → wrap64 x = x := fun x h0 h1 => wrap_id x (by omega) (by omega)
  obtain ⟨m1, m2⟩ := mul_word a0 a1 c0 c1
  obtain ⟨m3, m4⟩ := mul_word b0 b1 d0 d1
  unfold spec_l9Do.f impl_stretched.f
  rw [t1]
  refine Both.posR (by omega) ?_
  refine Both.ite (fun _ => ?_) (fun _ => ?_)
  · rw [w (a + c) (by omega) (by omega), w (b + d) (by omega) (by omega)]; exact ends _ _ (by omega) (by omega) (by omega) (by omega)
  refine Both.ite (fun _ => ?_) (fun _ => ?_)
  · rw [w (a - d) (by omega) (by omega), w (b - c) (by omega) (by omega)]; exact ends _ _ (by omega) (by omega) (by omega) (by omega)
  refine Both.ite (fun _ => ?_) (fun _ => ?_)
  · rw [w (a * c) (by omega) (by omega), w (b * d) (by omega) (by omega)]; exact ends _ _ (by omega) (by omega) (by omega) (by omega)
  refine Both.ite (fun _ => ?_) (fun _ => ?_)
  · refine Both.ite (fun _ => Both.now _ trivial) (fun hc => ?_)
    exact Both.negL (by omega) (Both.negR (by omega) (Both.now _ trivial))
  refine Both.ite (fun _ => ?_) (fun _ => ?_)
  · unfold spec_l9Mod.f
    by_cases h1 : b < c
    · refine Both.posR h1 (Both.congrL (fun k => ?_) (Both.now _ trivial))
      rw [if_pos h1]; rfl
    · by_cases h2 : c = 0
      · refine Both.negR h1 (Both.posR h2 (Both.congrL (fun k => ?_) (Both.now _ trivial)))
        rw [if_neg h1, if_neg (by omega)]; rfl
      · refine Both.negR h1 (Both.negR h2 (Both.congrL (fun k => ?_) (Both.now _ trivial)))
        rw [if_neg h1, if_pos (by omega), spec_l1Least_eq]; rfl
  refine Both.ite (fun _ => ?_) (fun _ => ?_)
  · exact Both.bindEL (spec_l1Least_eq ..) (Both.now _ trivial)
  have hmx : mx b d ≤ 65535 := by unfold mx; split <;> omega
  obtain ⟨r, e1, e2⟩ := ones_ev (mx b d) hmx
  refine Both.ite (fun _ => ?_) (fun _ => ?_)
  · exact Both.bindEL (spec_l1Most_eq ..) (Both.bindEL (spec_l1Most_eq ..) (Both.bindL e1 (Both.bindR e2 (Both.now _ trivial))))
  refine Both.ite (fun _ => ?_) (fun _ => ?_)
  · exact Both.bindEL (spec_l1Most_eq ..) (Both.bindL e1 (Both.bindR e2 (Both.now _ trivial)))
  unfold spec_l9Shift.f
  rw [t2, shl_one n (by omega), shl_nat a n (by omega), shl_nat b n (by omega), shr_nat a n (by omega), shr_nat b n (by omega)]
  generalize ((2 ^ n : Nat) : Int) = p at p1 p2 ⊢
  obtain ⟨q1, q2⟩ := mul_word a0 a1 (show 0 ≤ p by omega) (by omega)
  obtain ⟨q3, q4⟩ := mul_word b0 b1 (show 0 ≤ p by omega) (by omega)
  have v1 : wrap64 (Int.tdiv a p) = a / p := by
    have := Int.ediv_nonneg a0 (show 0 ≤ p by omega)
    have := Int.ediv_le_self p a0
    rw [Int.tdiv_eq_ediv_of_nonneg a0, w _ (by omega) (by omega)]
  have v2 : wrap64 (Int.tdiv b p) = b / p := by
    have := Int.ediv_nonneg b0 (show 0 ≤ p by omega)
    have := Int.ediv_le_self p b0
    rw [Int.tdiv_eq_ediv_of_nonneg b0, w _ (by omega) (by omega)]
  rw [v1, v2, w (a * p) (by omega) (by omega), w (b * p) (by omega) (by omega)]
  by_cases h9 : o = 9
  · refine Both.posR h9 ?_
    by_cases hcd : c = d
    · refine Both.posR hcd (Both.bindER (impl_wrap_eq ..) (Both.congrL (fun k => ?_) (Both.now _ trivial)))
      rw [if_pos h9, if_pos hcd, if_pos (by omega), spec_l9Ends_eq _ _ (by omega) (by omega) (by omega) (by omega)]; rfl
    · refine Both.negR hcd (Both.congrL (fun k => ?_) (Both.now _ trivial))
      rw [if_pos h9, if_neg hcd]; rfl
  · refine Both.negR h9 ?_
    by_cases hcd : c = d
    · refine Both.posR hcd (Both.negR (by omega) (Both.congrL (fun k => ?_) (Both.now _ trivial)))
      rw [if_neg h9, if_pos hcd, if_pos (by omega)]; rfl
    · refine Both.negR hcd (Both.congrL (fun k => ?_) (Both.now _ trivial))
      rw [if_neg h9, if_neg hcd]; rfl

theorem impl_isOp_eq (o : Int) : impl_isOp.f o = some (In o 1 10) := by unfold impl_isOp.f; rw [impl_in_eq]; rfl

theorem DoStretch_ev (o a b c d : Int) : ∃ r, Ev (fun k => spec_DoStretch.f k o a b c d) r ∧ Ev (fun k => impl_DoStretch.f k o a b c d) r := by
  suffices h : Both (fun _ => True) (fun k => spec_DoStretch.f k o a b c d) (fun k => impl_DoStretch.f k o a b c d) by
    obtain ⟨r, h1, h2, _⟩ := h; exact ⟨r, h1, h2⟩
  unfold spec_DoStretch.f impl_DoStretch.f
  refine Both.bindEL (spec_l1In_eq ..) (Both.bindER (impl_isOp_eq ..) (Both.ite (fun _ => ?_) (fun _ => Both.now _ trivial)))
  refine Both.bindEL (spec_l9Two_eq ..) (Both.bindER (impl_two_eq ..) (Both.ite (fun h => ?_) (fun _ => Both.now _ trivial)))
  rw [Bool.and_eq_true] at h
  exact Both.bind2 (doStretch_ev o a b c d h.1 h.2) (fun r _ => Both.now _ trivial)

def mayN (v m x : Nat) : Nat := if x = 1 then v ||| m else andn 65535 v
theorem mayN_lt {v m x : Nat} (hv : v < 65536) (hm : m < 65536) : mayN v m x < 65536 := by
  unfold mayN; split
  · exact word_or hv hm
  · exact word_andn (by omega)

def allIn (lo hi : Int) (l : List Int) : Bool := l.all fun x => In x lo hi
theorem allIn_drop (lo hi : Int) (l : List Int) (i : Nat) (h : i < l.length) : allIn lo hi (l.drop i) = (In l[i] lo hi && allIn lo hi (l.drop (i + 1))) := by
  unfold allIn
  rw [List.drop_eq_getElem_cons h]; rfl

/-- The places of a row that are true, from a number on. -/
def tr : List Bool → Nat → List Int
  | [], _ => []
  | b :: v, s => if b = true then (s : Int) :: tr v (s + 1) else tr v (s + 1)
theorem tr_ge : ∀ (v : List Bool) (s : Nat) (x : Int), x ∈ tr v s → (s : Int) ≤ x
  | [], _, _, h => by simp [tr] at h
  | b :: v, s, x, h => by
    unfold tr at h
    by_cases hb : b = true
    · rw [if_pos hb] at h
      rcases List.mem_cons.1 h with h | h
      · omega
      · have := tr_ge v (s + 1) x h; omega
    · rw [if_neg hb] at h
      have := tr_ge v (s + 1) x h; omega
theorem tr_len : ∀ (v : List Bool) (s : Nat), (tr v s).length ≤ v.length
  | [], _ => by simp [tr]
  | b :: v, s => by
    have := tr_len v (s + 1)
    unfold tr
    by_cases hb : b = true
    · rw [if_pos hb]; simp; omega
    · rw [if_neg hb]; simp; omega
theorem tr_mem : ∀ (v : List Bool) (s j : Nat) (h : j < v.length), decide (((s + j : Nat) : Int) ∈ tr v s) = v[j]
  | [], _, _, h => by simp at h
  | b :: v, s, 0, h => by
    unfold tr
    by_cases hb : b = true
    · rw [if_pos hb]; simp [hb]
    · rw [if_neg hb]
      have : ¬ ((s + 0 : Nat) : Int) ∈ tr v (s + 1) := fun h => by have := tr_ge v (s + 1) _ h; omega
      simp only [decide_eq_false this, List.getElem_cons_zero]
      exact (Bool.eq_false_iff.mpr hb).symm
  | b :: v, s, j + 1, h => by
    have ih := tr_mem v (s + 1) j (by simpa using h)
    rw [show s + 1 + j = s + (j + 1) by omega] at ih
    unfold tr
    rw [List.getElem_cons_succ, ← ih]
    by_cases hb : b = true
    · rw [if_pos hb]
      have : ¬ ((s + (j + 1) : Nat) : Int) = (s : Int) := by omega
      simp only [List.mem_cons, this, false_or]
    · rw [if_neg hb]
def putP : List Int → Int → List Int
  | [], x => [x]
  | a :: l, x => if a < x then a :: putP l x else if a = x then a :: l else x :: a :: l
theorem putP_low (l : List Int) (x : Int) (h : ∀ a, a ∈ l → x < a) : putP l x = x :: l := by
  cases l with
  | nil => rfl
  | cons a l =>
    have := h a (by simp)
    unfold putP
    rw [if_neg (by omega), if_neg (by omega)]
theorem putP_tr : ∀ (v : List Bool) (s j : Nat) (h : j < v.length), putP (tr v s) ((s + j : Nat) : Int) = tr (v.set j true) s
  | [], _, _, h => by simp at h
  | b :: v, s, 0, h => by
    have low : ∀ a, a ∈ tr v (s + 1) → (s : Int) < a := fun a ha => by have := tr_ge v (s + 1) a ha; omega
    rw [List.set_cons_zero]
    unfold tr
    rw [if_pos rfl, Nat.add_zero]
    by_cases hb : b = true
    · rw [if_pos hb]; unfold putP; rw [if_neg (by omega), if_pos (by omega)]
    · rw [if_neg hb]; exact putP_low _ _ low
  | b :: v, s, j + 1, h => by
    have ih := putP_tr v (s + 1) j (by simpa using h)
    rw [show s + 1 + j = s + (j + 1) by omega] at ih
    rw [List.set_cons_succ]
    unfold tr
    by_cases hb : b = true
    · rw [if_pos hb, if_pos hb, ← ih]; conv => lhs; unfold putP
      rw [if_pos (by omega)]
    · rw [if_neg hb, if_neg hb, ih]
theorem tr_falses : ∀ (m s : Nat), tr (List.replicate m false) s = []
  | 0, _ => rfl
  | m + 1, s => by rw [List.replicate_succ]; unfold tr; rw [if_neg (by simp)]; exact tr_falses m (s + 1)
theorem rdOf_bool (l : List Bool) (i : Nat) (h : i < l.length) : rdOf false l (i : Int) = l[i] := by unfold rdOf; simp [List.getD, h]

/-- The places of a row that are true and of which a test holds. -/
def trp (f : Nat → Bool) : List Bool → Nat → List Int
  | [], _ => []
  | b :: v, s => if (b && f s) = true then (s : Int) :: trp f v (s + 1) else trp f v (s + 1)
theorem trp_filter (f : Nat → Bool) (g : Int → Bool) (hg : ∀ i : Nat, g (i : Int) = f i) : ∀ (v : List Bool) (s : Nat), (tr v s).filter g = trp f v s
  | [], _ => rfl
  | b :: v, s => by
    have ih := trp_filter f g hg v (s + 1)
    unfold tr trp
    by_cases hb : b = true
    · rw [if_pos hb, hb, Bool.true_and]
      by_cases hf : f s = true
      · rw [if_pos hf, List.filter_cons_of_pos (by rw [hg, hf]), ih]
      · rw [if_neg hf, List.filter_cons_of_neg (by rw [hg]; exact hf), ih]
    · rw [if_neg hb, Bool.eq_false_iff.mpr hb, Bool.false_and, if_neg (by simp), ih]
theorem tr_lt : ∀ (v : List Bool) (s : Nat) (x : Int), x ∈ tr v s → x < ((s + v.length : Nat) : Int)
  | [], _, _, h => by simp [tr] at h
  | b :: v, s, x, h => by
    unfold tr at h
    by_cases hb : b = true
    · rw [if_pos hb] at h
      rcases List.mem_cons.1 h with h | h
      · simp; omega
      · have := tr_lt v (s + 1) x h; simp; omega
    · rw [if_neg hb] at h
      have := tr_lt v (s + 1) x h; simp; omega

/-- What a drawing function comes to, with what is known of it. -/
def EvP {α : Type} (g : Nat → Option α) (P : α → Prop) : Prop := ∃ r, Ev g r ∧ P r
theorem EvP.now {α : Type} {P : α → Prop} (r : α) (h : P r) : EvP (fun _ => some r) P := ⟨r, Ev.now r, h⟩
theorem EvP.bind {α β : Type} {g : Nat → Option α} {f : Nat → α → Option β} {P : α → Prop} {Q : β → Prop} (h : EvP g P) (k : ∀ a, P a → EvP (fun n => f n a) Q) : EvP (fun n => (g n).bind (f n)) Q := by
  obtain ⟨a, h1, h2⟩ := h
  obtain ⟨r, h3, h4⟩ := k a h2
  exact ⟨r, Ev.bind h1 h3, h4⟩
theorem EvP.bindE {α β : Type} {g : Option α} {f : Nat → α → Option β} {P : α → Prop} {Q : β → Prop} (h : ∃ a, g = some a ∧ P a) (k : ∀ a, P a → EvP (fun n => f n a) Q) : EvP (fun n => g.bind (f n)) Q := by
  obtain ⟨a, rfl, h2⟩ := h; exact k a h2
theorem EvP.mono {α : Type} {g : Nat → Option α} {P Q : α → Prop} (h : EvP g P) (k : ∀ a, P a → Q a) : EvP g Q := by obtain ⟨a, h1, h2⟩ := h; exact ⟨a, h1, k a h2⟩
theorem EvP.ite {α : Type} {c : Prop} [Decidable c] {A B : Nat → Option α} {P : α → Prop} (h1 : c → EvP A P) (h2 : ¬ c → EvP B P) : EvP (fun k => if c then A k else B k) P := by
  by_cases h : c
  · obtain ⟨r, a, b⟩ := h1 h; exact ⟨r, Ev.pos h a, b⟩
  · obtain ⟨r, a, b⟩ := h2 h; exact ⟨r, Ev.neg h a, b⟩
theorem EvP.pos {α : Type} {c : Prop} [Decidable c] {A B : Nat → Option α} {P : α → Prop} (h : c) (e : EvP A P) : EvP (fun k => if c then A k else B k) P := EvP.ite (fun _ => e) (fun n => absurd h n)
theorem EvP.neg {α : Type} {c : Prop} [Decidable c] {A B : Nat → Option α} {P : α → Prop} (h : ¬ c) (e : EvP B P) : EvP (fun k => if c then A k else B k) P := EvP.ite (fun n => absurd n h) (fun _ => e)
theorem EvP.step {α : Type} {g f : Nat → Option α} {P : α → Prop} (h : ∀ k, g (k + 1) = f k) (e : EvP f P) : EvP g P := by obtain ⟨r, a, b⟩ := e; exact ⟨r, Ev.step h a, b⟩
theorem EvP.congr {α : Type} {g f : Nat → Option α} {P : α → Prop} (h : ∀ k, g k = f k) (e : EvP f P) : EvP g P := by obtain ⟨r, a, b⟩ := e; exact ⟨r, Ev.congr h a, b⟩
theorem EvP.some' {α : Type} {g : Option α} {P : α → Prop} (h : ∃ a, g = some a ∧ P a) : EvP (fun _ => g) P := by obtain ⟨a, rfl, h⟩ := h; exact EvP.now a h
/-- Bytes. -/
def Bytes (l : List Int) : Prop := l.length ≤ 1099511627776 ∧ ∀ y ∈ l, 0 ≤ y ∧ y ≤ 255
theorem Bytes.rd {l : List Int} (h : Bytes l) (i : Int) (h0 : 0 ≤ i) (h1 : i < (l.length : Int)) : 0 ≤ rd l i ∧ rd l i ≤ 255 := by
  obtain ⟨n, rfl⟩ := Int.eq_ofNat_of_zero_le h0
  have hn : n < l.length := by omega
  rw [rd_nat l n hn]
  exact h.2 _ (List.getElem_mem hn)
theorem u8_wf {y : Int} (h : (Lit.int .u8 y).wf = true) : 0 ≤ y ∧ y ≤ 255 := by
  have h' : (decide (IntKind.u8.min ≤ y) && decide (y ≤ IntKind.u8.max)) = true := h
  have e1 : IntKind.u8.min = 0 := by decide
  have e2 : IntKind.u8.max = 255 := by decide
  rw [e1, e2] at h'
  simpa using h'

/-- A place of the bytes' reader: never far. -/
def CurAt (a : Int) (n : Nat) : Prop := 0 ≤ a ∧ a ≤ n
theorem u64c (x : Int) : 0 ≤ wrap64 (Go.bits .and .u64 x 255) ∧ wrap64 (Go.bits .and .u64 x 255) ≤ 255 := by
  have h : Go.bits .and .u64 x 255 = IntKind.u64.wrap ((BitVec.ofInt 64 x &&& BitVec.ofInt 64 255).toNat : Int) := rfl
  have h2 : (BitVec.ofInt 64 x &&& BitVec.ofInt 64 255).toNat ≤ 255 := by
    rw [BitVec.toNat_and]
    exact Nat.and_le_right
  have h3 : ∀ n : Int, IntKind.u64.wrap n = n % 18446744073709551616 := fun n => by simp [IntKind.wrap, IntKind.bits, IntKind.signed]
  rw [h, h3]
  generalize (BitVec.ofInt 64 x &&& BitVec.ofInt 64 255).toNat = z at h2
  unfold wrap64
  omega
theorem next_ok {l : List Int} (hl : Bytes l) (a s : Int) (h0 : 0 ≤ a) (h1 : a ≤ 1152921504606846976) :
    ∃ r : Int × Int × Int, spec_l1Cur_next.f l a s = some r ∧ (0 ≤ r.1 ∧ r.1 ≤ 255 ∧ r.2.1 = a + 1) := by
  have ew : wrap64 (a + 1) = a + 1 := by unfold wrap64; omega
  unfold spec_l1Cur_next.f
  by_cases c1 : a < (l.length : Int)
  · have hr := hl.rd a h0 c1
    have er : wrap64 (rd l a) = rd l a := by unfold wrap64; omega
    rw [if_pos c1, if_pos h0, ew, if_pos (by omega)]
    exact ⟨_, rfl, by rw [er]; exact hr.1, by rw [er]; exact hr.2, rfl⟩
  · rw [if_neg c1, ew, if_neg (by omega)]
    exact ⟨_, rfl, (u64c _).1, (u64c _).2, rfl⟩

theorem tmod_lt {x n : Int} (h0 : 0 ≤ x) (hn : 0 < n) : 0 ≤ Int.tmod x n ∧ Int.tmod x n < n := by
  rw [Int.tmod_eq_emod_of_nonneg h0]
  exact ⟨Int.emod_nonneg _ (by omega), Int.emod_lt_of_pos _ hn⟩
theorem pick_ok {l : List Int} (hl : Bytes l) (a s n : Int) (h0 : 0 ≤ a) (h1 : a ≤ 1152921504606846975) :
    ∃ r : Int × Int × Int, spec_l1Cur_pick.f l a s n = some r ∧ (0 ≤ r.1 ∧ r.1 ≤ n - 1 ∨ r.1 = 0 ∧ n ≤ 1) ∧ a ≤ r.2.1 ∧ r.2.1 ≤ a + 2 := by
  unfold spec_l1Cur_pick.f
  by_cases c1 : n ≤ 1
  · rw [if_pos c1]; exact ⟨_, rfl, Or.inr ⟨rfl, c1⟩, Int.le_refl _, by show a ≤ a + 2; omega⟩
  · rw [if_neg c1]
    obtain ⟨r, hr, h2, h3, h4⟩ := next_ok hl a s h0 (by omega)
    rw [hr]; simp only [Option.bind_some]
    by_cases c2 : n > 200
    · rw [if_pos c2]
      obtain ⟨q, hq, h5, h6, h7⟩ := next_ok hl r.2.1 r.2.2 (by omega) (by omega)
      rw [hq]; simp only [Option.bind_some]
      rw [if_neg (by omega)]
      have e : wrap64 ((wrap64 (r.1 * 256)) + q.1) = r.1 * 256 + q.1 := by unfold wrap64; omega
      have := tmod_lt (x := r.1 * 256 + q.1) (n := n) (by omega) (by omega)
      refine ⟨_, rfl, Or.inl ?_, ?_, ?_⟩
      · rw [e]; omega
      · show a ≤ q.2.1; omega
      · show q.2.1 ≤ a + 2; omega
    · rw [if_neg c2, if_neg (by omega)]
      have := tmod_lt (x := r.1) (n := n) h2 (by omega)
      refine ⟨_, rfl, Or.inl ?_, ?_, ?_⟩
      · show 0 ≤ Int.tmod r.1 n ∧ Int.tmod r.1 n ≤ n - 1; omega
      · show a ≤ r.2.1; omega
      · show r.2.1 ≤ a + 2; omega

theorem one_ok {l : List Int} (hl : Bytes l) (a s n : Int) (h0 : 0 ≤ a) (h1 : a ≤ 1152921504606846975) :
    ∃ r : Bool × Int × Int, spec_l1Cur_one.f l a s n = some r ∧ a ≤ r.2.1 ∧ r.2.1 ≤ a + 2 := by
  unfold spec_l1Cur_one.f
  obtain ⟨r, hr, _, h2, h3⟩ := pick_ok hl a s n h0 h1
  rw [hr]; exact ⟨_, rfl, h2, h3⟩

theorem among_ok {l : List Int} (hl : Bytes l) (a s : Int) (xs : List Int) (hx : 0 < xs.length) (hx2 : xs.length ≤ 1000) (h0 : 0 ≤ a) (h1 : a ≤ 1152921504606846975) :
    ∃ r : Int × Int × Int, spec_l1Cur_among.f l a s xs = some r ∧ r.1 ∈ xs ∧ a ≤ r.2.1 ∧ r.2.1 ≤ a + 2 := by
  unfold spec_l1Cur_among.f
  obtain ⟨r, hr, h2, h3, h4⟩ := pick_ok hl a s (xs.length : Int) h0 h1
  rw [hr]; simp only [Option.bind_some]
  have hb : 0 ≤ r.1 ∧ r.1 < (xs.length : Int) := by omega
  rw [if_pos hb.1, if_pos hb.2]
  obtain ⟨n, hn⟩ := Int.eq_ofNat_of_zero_le hb.1
  refine ⟨_, rfl, ?_, h3, h4⟩
  show rd xs r.1 ∈ xs
  rw [hn, rd_nat xs n (by omega)]
  exact List.getElem_mem _

theorem word_ok {l : List Int} (hl : Bytes l) (a s : Int) (h0 : 0 ≤ a) (h1 : a ≤ 1152921504606846900) :
    ∃ r : Int × Int × Int, spec_l1Cur_word.f l a s = some r ∧ (0 ≤ r.1 ∧ r.1 ≤ 65535) ∧ a ≤ r.2.1 ∧ r.2.1 ≤ a + 12 := by
  unfold spec_l1Cur_word.f
  obtain ⟨r1, e1, p1, q1, s1⟩ := pick_ok hl a s 256 h0 (by omega)
  rw [e1]; simp only [Option.bind_some]
  obtain ⟨r2, e2, p2, q2, s2⟩ := pick_ok hl r1.2.1 r1.2.2 256 (by omega) (by omega)
  rw [e2]; simp only [Option.bind_some]
  obtain ⟨r3, e3, p3, q3, s3⟩ := pick_ok hl r2.2.1 r2.2.2 256 (by omega) (by omega)
  rw [e3]; simp only [Option.bind_some]
  obtain ⟨r4, e4, p4, q4, s4⟩ := pick_ok hl r3.2.1 r3.2.2 256 (by omega) (by omega)
  rw [e4]; simp only [Option.bind_some]
  obtain ⟨r5, e5, p5, q5, s5⟩ := pick_ok hl r4.2.1 r4.2.2 20 (by omega) (by omega)
  rw [e5]; simp only [Option.bind_some]
  obtain ⟨r6, e6, p6, q6, s6⟩ := among_ok hl r5.2.1 r5.2.2 ([0, 1, 2, 255, 256, 32767, 32768, 65535, wrap64 ((wrap64 (r1.1 * 256)) + r2.1), wrap64 ((wrap64 (r3.1 * 256)) + r4.1), r5.1]) (by simp) (by simp) (by omega) (by omega)
  rw [e6]
  refine ⟨_, rfl, ?_, ?_, ?_⟩
  · show 0 ≤ r6.1 ∧ r6.1 ≤ 65535
    have k1 : wrap64 ((wrap64 (r1.1 * 256)) + r2.1) = r1.1 * 256 + r2.1 := by unfold wrap64; omega
    have k2 : wrap64 ((wrap64 (r3.1 * 256)) + r4.1) = r3.1 * 256 + r4.1 := by unfold wrap64; omega
    rw [k1, k2] at p6
    clear k1 k2
    simp only [List.mem_cons, List.not_mem_nil, or_false] at p6
    omega
  · show a ≤ r6.2.1; omega
  · show r6.2.1 ≤ a + 12; omega

theorem rawWord_ok {l : List Int} (hl : Bytes l) (a s : Int) (h0 : 0 ≤ a) (h1 : a ≤ 1152921504606846800) :
    ∃ r : Int × Int × Int, spec_l1Cur_rawWord.f l a s = some r ∧ (-1 ≤ r.1 ∧ r.1 ≤ 65536) ∧ a ≤ r.2.1 ∧ r.2.1 ≤ a + 14 := by
  unfold spec_l1Cur_rawWord.f
  obtain ⟨r1, e1, q1, s1⟩ := one_ok hl a s 20 h0 (by omega)
  rw [e1]; simp only [Option.bind_some]
  by_cases c : r1.1 = true
  · rw [if_pos c]
    obtain ⟨r6, e6, p6, q6, s6⟩ := among_ok hl r1.2.1 r1.2.2 [(-1), 65536] (by simp) (by simp) (by omega) (by omega)
    rw [e6]
    refine ⟨_, rfl, ?_, ?_, ?_⟩
    · show -1 ≤ r6.1 ∧ r6.1 ≤ 65536
      simp only [List.mem_cons, List.not_mem_nil, or_false] at p6
      omega
    · show a ≤ r6.2.1; omega
    · show r6.2.1 ≤ a + 14; omega
  · rw [if_neg c]
    obtain ⟨r6, e6, p6, q6, s6⟩ := word_ok hl r1.2.1 r1.2.2 (by omega) (by omega)
    rw [e6]
    refine ⟨_, rfl, ?_, ?_, ?_⟩
    · show -1 ≤ r6.1 ∧ r6.1 ≤ 65536; omega
    · show a ≤ r6.2.1; omega
    · show r6.2.1 ≤ a + 14; omega

theorem numberOf_loop {l : List Int} (hl : Bytes l) : ∀ (d i : Nat) (n : Int), i + d = l.length → 0 ≤ n → n ≤ 1000002 → EvP (fun k => laws_numberOf.l0 k n l (l.length : Int) (i : Int)) (fun r => 0 ≤ r ∧ r ≤ 1000002)
  | 0, i, n, hi, h0, h1 => by
    refine EvP.step (fun k => laws_numberOf.l0.eq_2 ..) (EvP.neg (by omega) (EvP.now _ ⟨h0, h1⟩))
  | d + 1, i, n, hi, h0, h1 => by
    have hlt : i < l.length := by omega
    have hr := hl.rd (i : Int) (by omega) (by omega)
    have hL := hl.1
    have e1 : wrap64 (rd l (i : Int)) = rd l (i : Int) := by unfold wrap64; omega
    have e2 : wrap64 (31 * n) = 31 * n := by unfold wrap64; omega
    have e3 : wrap64 (31 * n + rd l (i : Int)) = 31 * n + rd l (i : Int) := by unfold wrap64; omega
    have e4 : wrap64 ((i : Int) + 1) = ((i + 1 : Nat) : Int) := w1 i (by omega)
    have hm := tmod_lt (x := 31 * n + rd l (i : Int)) (n := 1000003) (by omega) (by omega)
    refine EvP.step (fun k => laws_numberOf.l0.eq_2 ..) (EvP.pos (by omega) (EvP.pos (by omega) (EvP.pos (by omega) ?_)))
    rw [e1, e2, e3, e4]
    exact numberOf_loop hl d (i + 1) _ (by omega) hm.1 (by omega)
theorem numberOf_some (l : List Int) (hl : Bytes l) : ∃ k n, laws_numberOf.f k l = some n ∧ 0 ≤ n ∧ n ≤ 1000002 := by
  obtain ⟨r, ⟨K, h⟩, h1⟩ := numberOf_loop hl l.length 0 0 (by omega) (by omega) (by omega)
  exact ⟨K, r, h K (Nat.le_refl _), h1⟩
theorem EvP.get {α : Type} {g : Nat → Option α} {P : α → Prop} (h : EvP g P) : ∃ k r, g k = some r ∧ P r := by
  obtain ⟨r, ⟨K, h⟩, h1⟩ := h; exact ⟨K, r, h K (Nat.le_refl _), h1⟩

theorem stretch_j0 {l : List Int} (hl : Bytes l) (x y a s : Int) (h0 : 0 ≤ a) (h1 : a ≤ 1152921504606846700) :
    EvP (fun k => spec_l1Cur_stretch.j0 k x y l a s) (fun r => a ≤ r.2.2.1 ∧ r.2.2.1 ≤ a + 30) := by
  refine EvP.step (fun k => spec_l1Cur_stretch.j0.eq_2 ..) ?_
  refine EvP.bindE (P := fun _ => True) ⟨_, spec_l1Least_eq .., trivial⟩ fun u _ => EvP.bindE (P := fun _ => True) ⟨_, spec_l1Most_eq .., trivial⟩ fun v _ => EvP.bindE (one_ok hl a s 30 h0 (by omega)) fun r hr => EvP.ite (fun _ => ?_) (fun _ => EvP.now _ ?_)
  · refine EvP.bindE (rawWord_ok hl _ _ (by omega) (by omega)) fun p hp => EvP.bindE (rawWord_ok hl _ _ (by omega) (by omega)) fun q hq => EvP.now _ ?_
    show a ≤ q.2.1 ∧ q.2.1 ≤ a + 30; omega
  · show a ≤ r.2.1 ∧ r.2.1 ≤ a + 30; omega
theorem stretch_ok {l : List Int} (hl : Bytes l) (a s : Int) (h0 : 0 ≤ a) (h1 : a ≤ 1152921504606846600) :
    EvP (fun k => spec_l1Cur_stretch.f k l a s) (fun r => a ≤ r.2.2.1 ∧ r.2.2.1 ≤ a + 60) := by
  unfold spec_l1Cur_stretch.f
  refine EvP.bindE (word_ok hl a s h0 (by omega)) fun p hp => EvP.bindE (word_ok hl _ _ (by omega) (by omega)) fun q hq => EvP.bindE (one_ok hl _ _ 3 (by omega) (by omega)) fun r hr => EvP.ite (fun _ => ?_) (fun _ => ?_)
  · refine EvP.bindE (pick_ok hl _ _ 9 (by omega) (by omega)) fun t ht => EvP.bindE (P := fun _ => True) ⟨_, spec_l1Least_eq .., trivial⟩ fun u _ => ?_
    exact (stretch_j0 hl _ _ _ _ (by omega) (by omega)).mono fun z hz => by omega
  · exact (stretch_j0 hl _ _ _ _ (by omega) (by omega)).mono fun z hz => by omega

theorem bytes_of {l : List Int} (h : l.length * 1 ≤ 140737488351232 ∧ ∀ y0_ ∈ l, (Lit.int .u8 y0_).wf = true) (hs : l.length ≤ 1048576) : Bytes l := ⟨by omega, fun y hy => u8_wf (h.2 y hy)⟩
theorem small_of {l0 l1 : List Int} (h : ¬ (wrap64 ((l0.length : Int) + (l1.length : Int))) > 1048576) (h0 : l0.length * 1 ≤ 140737488351232) (h1 : l1.length * 1 ≤ 140737488351232) : l0.length ≤ 1048576 ∧ l1.length ≤ 1048576 := by
  have e : wrap64 ((l0.length : Int) + (l1.length : Int)) = (l0.length : Int) + (l1.length : Int) := by unfold wrap64; omega
  rw [e] at h; omega

theorem do_add (x y : Int) (hx : 0 ≤ x ∧ x ≤ 65535) (hy : 0 ≤ y ∧ y ≤ 65535) : impl_do.f 1 x y = some ((x + y) % 65536) := by
  unfold impl_do.f
  rw [if_pos rfl, impl_WordOf_eq, wrap_id (x + y) (by omega) (by omega)]; rfl
theorem do_sub (x y : Int) (hx : 0 ≤ x ∧ x ≤ 65535) (hy : 0 ≤ y ∧ y ≤ 65535) : impl_do.f 2 x y = some ((x - y) % 65536) := by
  unfold impl_do.f
  rw [if_neg (by decide), if_pos rfl, impl_WordOf_eq, wrap_id (x - y) (by omega) (by omega)]; rfl
theorem do_mul (x y : Int) (hx : 0 ≤ x ∧ x ≤ 65535) (hy : 0 ≤ y ∧ y ≤ 65535) : impl_do.f 3 x y = some ((x * y) % 65536) := by
  obtain ⟨m1, m2⟩ := mul_word hx.1 hx.2 hy.1 hy.2
  unfold impl_do.f
  rw [if_neg (by decide), if_neg (by decide), if_pos rfl, impl_WordOf_eq, wrap_id (x * y) (by omega) (by omega)]; rfl
theorem do_div (x y : Int) (hx : 0 ≤ x ∧ x ≤ 65535) (hy : 0 ≤ y ∧ y ≤ 65535) : impl_do.f 4 x y = some (x / y) := by
  unfold impl_do.f
  rw [if_neg (by decide), if_neg (by decide), if_neg (by decide), if_pos rfl]
  by_cases h : y = 0
  · rw [if_pos h, h, Int.ediv_zero]
  · rw [if_neg h, Int.tdiv_eq_ediv_of_nonneg hx.1]
    have := Int.ediv_nonneg hx.1 hy.1
    have := Int.ediv_le_self y hx.1
    rw [wrap_id _ (by omega) (by omega)]
theorem do_mod (x y : Int) (hx : 0 ≤ x ∧ x ≤ 65535) (hy : 0 ≤ y ∧ y ≤ 65535) : impl_do.f 5 x y = some (x % y) := by
  unfold impl_do.f
  rw [if_neg (by decide), if_neg (by decide), if_neg (by decide), if_neg (by decide), if_pos rfl]
  by_cases h : y = 0
  · rw [if_pos h, h, Int.emod_zero]
  · rw [if_neg h, Int.tmod_eq_emod_of_nonneg hx.1]
theorem do_and (x y : Int) : impl_do.f 6 x y = some (Go.bits .and .i64 x y) := by
  unfold impl_do.f
  rw [if_neg (by decide), if_neg (by decide), if_neg (by decide), if_neg (by decide), if_neg (by decide), if_pos rfl]
theorem do_or (x y : Int) : impl_do.f 7 x y = some (Go.bits .or .i64 x y) := by
  unfold impl_do.f
  rw [if_neg (by decide), if_neg (by decide), if_neg (by decide), if_neg (by decide), if_neg (by decide), if_neg (by decide), if_pos rfl]
theorem do_xor (x y : Int) : impl_do.f 8 x y = some (Go.bits .xor .i64 x y) := by
  unfold impl_do.f
  rw [if_neg (by decide), if_neg (by decide), if_neg (by decide), if_neg (by decide), if_neg (by decide), if_neg (by decide), if_neg (by decide), if_pos rfl]
theorem pow_word' {n : Nat} (h : n < 16) : 1 ≤ ((2 ^ n : Nat) : Int) ∧ ((2 ^ n : Nat) : Int) ≤ 32768 := by
  have h1 : 2 ^ n ≤ 32768 := Nat.pow_le_pow_right (n := 2) (show 2 > 0 by decide) (show n ≤ 15 by omega)
  have h2 := Nat.two_pow_pos n
  generalize 2 ^ n = p at h1 h2 ⊢
  omega
theorem do_shl (x y : Int) (n : Nat) (hn : n < 16) (e : Int.tmod y 16 = (n : Int)) (hx : 0 ≤ x ∧ x ≤ 65535) : impl_do.f 9 x y = some ((x * ((2 ^ n : Nat) : Int)) % 65536) := by
  unfold impl_do.f
  rw [if_neg (by decide), if_neg (by decide), if_neg (by decide), if_neg (by decide), if_neg (by decide), if_neg (by decide), if_neg (by decide), if_neg (by decide), if_pos rfl, e, if_pos (by omega), shl_nat x n (by omega), impl_WordOf_eq]
  obtain ⟨p1, p2⟩ := pow_word' hn
  generalize ((2 ^ n : Nat) : Int) = p at p1 p2 ⊢
  obtain ⟨m1, m2⟩ := mul_word hx.1 hx.2 (show 0 ≤ p by omega) (show p ≤ 65535 by omega)
  rw [wrap_id _ (by omega) (by omega)]; rfl
theorem do_shr (o x y : Int) (n : Nat) (hn : n < 16) (e : Int.tmod y 16 = (n : Int)) (ho : 10 ≤ o) : impl_do.f o x y = some (x / ((2 ^ n : Nat) : Int)) := by
  unfold impl_do.f
  rw [if_neg (by omega), if_neg (by omega), if_neg (by omega), if_neg (by omega), if_neg (by omega), if_neg (by omega), if_neg (by omega), if_neg (by omega), if_neg (by omega), e, if_pos (by omega), shr_nat x n (by omega)]

theorem ones_snd_loop (n : Int) (hn : n ≤ 65535) : ∀ (d j : Nat), j + d = 16 → ∃ (r : Int) (k : Nat), Ev (fun q => spec_l9Ones.l0 q n (((2 ^ j : Nat) : Int) - 1)) r ∧ Ev (fun q => impl_ones.l0 q n (((2 ^ j : Nat) : Int) - 1)) r ∧ r = ((2 ^ k : Nat) : Int) - 1 ∧ n ≤ r ∧ k ≤ 16
  | 0, j, h => by
    obtain rfl : j = 16 := by omega
    have h2 : ((2 ^ 16 : Nat) : Int) = 65536 := by decide
    exact ⟨_, 16, Ev.step (fun k => spec_l9Ones.l0.eq_2 ..) (Ev.neg (by omega) (Ev.now _)), Ev.step (fun k => impl_ones.l0.eq_2 ..) (Ev.neg (by omega) (Ev.now _)), rfl, by omega, by omega⟩
  | d + 1, j, h => by
    by_cases hlt : (((2 ^ j : Nat) : Int) - 1) < n
    · have hp : 2 ^ j ≤ 32768 := Nat.pow_le_pow_right (n := 2) (show 2 > 0 by decide) (show j ≤ 15 by omega)
      have hs : 2 ^ (j + 1) = 2 * 2 ^ j := by rw [Nat.pow_succ]; omega
      obtain ⟨r, k, e1, e2, h3⟩ := ones_snd_loop n hn d (j + 1) (by omega)
      rw [hs] at e1 e2
      have hq := Nat.two_pow_pos j
      generalize 2 ^ j = p at hp hq e1 e2 hlt ⊢
      have ew : wrap64 (wrap64 (2 * ((p : Int) - 1)) + 1) = ((2 * p : Nat) : Int) - 1 := by
        rw [wrap_id (2 * ((p : Int) - 1)) (by omega) (by omega), wrap_id _ (by omega) (by omega)]; omega
      refine ⟨r, k, Ev.step (fun k => spec_l9Ones.l0.eq_2 ..) (Ev.pos hlt ?_), Ev.step (fun k => impl_ones.l0.eq_2 ..) (Ev.pos hlt ?_), h3⟩
      · rw [ew]; exact e1
      · rw [ew]; exact e2
    · exact ⟨_, j, Ev.step (fun k => spec_l9Ones.l0.eq_2 ..) (Ev.neg hlt (Ev.now _)), Ev.step (fun k => impl_ones.l0.eq_2 ..) (Ev.neg hlt (Ev.now _)), rfl, by omega, by omega⟩
theorem ones_snd (n : Int) (hn : n ≤ 65535) : ∃ (r : Int) (k : Nat), Ev (fun k => spec_l9Ones.f k n) r ∧ Ev (fun k => impl_ones.f k n) r ∧ r = ((2 ^ k : Nat) : Int) - 1 ∧ n ≤ r ∧ k ≤ 16 := by
  unfold spec_l9Ones.f impl_ones.f
  exact ones_snd_loop n hn 16 0 (by omega)

/-- What a stretch told must hold: it is one, and whatever the operation makes lies in it. -/
def Snd (o a b c d : Int) (r : Int × Int) : Prop := GoodS r.1 r.2 = true ∧ ∀ x y, a ≤ x → x ≤ b → c ≤ y → y ≤ d → ∃ z, impl_do.f o x y = some z ∧ r.1 ≤ z ∧ z ≤ r.2
theorem GoodS_iff {a b : Int} : GoodS a b = true ↔ 0 ≤ a ∧ a ≤ b ∧ b ≤ 65535 := by
  unfold GoodS; simp only [Bool.and_eq_true, In_true, decide_eq_true_eq]; omega
theorem ends_snd {x y : Int} (h : x ≤ y) : GoodS (EndsM x y).1 (EndsM x y).2 = true ∧ ∀ t, x ≤ t → t ≤ y → (EndsM x y).1 ≤ t % 65536 ∧ t % 65536 ≤ (EndsM x y).2 := by
  unfold EndsM
  rw [GoodS_iff]
  split
  · exact ⟨by simp only; omega, fun t h1 h2 => by simp only; omega⟩
  · exact ⟨by simp only; omega, fun t h1 h2 => by simp only; omega⟩
theorem or_ge {x y : Nat} : x ≤ x ||| y ∧ y ≤ x ||| y := ⟨Nat.left_le_or, Nat.right_le_or⟩
theorem mx_le {a b c : Int} (h1 : a ≤ c) (h2 : b ≤ c) : mx a b ≤ c := by unfold mx; split <;> omega
theorem le_mx {a b : Int} : a ≤ mx a b ∧ b ≤ mx a b := by unfold mx; split <;> omega
theorem mn_le {a b : Int} : mn a b ≤ a ∧ mn a b ≤ b := by unfold mn; split <;> omega
theorem le_mn {a b c : Int} (h1 : c ≤ a) (h2 : c ≤ b) : c ≤ mn a b := by unfold mn; split <;> omega
theorem div_mono {a x b c y d : Int} (h0 : 0 ≤ a) (h1 : a ≤ x) (h2 : x ≤ b) (h3 : 0 < c) (h4 : c ≤ y) (h5 : y ≤ d) : a / d ≤ x / y ∧ x / y ≤ b / c := by
  constructor
  · refine Int.le_ediv_of_mul_le (by omega) ?_
    have e1 : a / d * y ≤ a / d * d := Int.mul_le_mul_of_nonneg_left h5 (Int.ediv_nonneg h0 (by omega))
    have e2 : a / d * d ≤ a := Int.ediv_mul_le a (by omega)
    omega
  · refine Int.le_ediv_of_mul_le h3 ?_
    have e1 : x / y * c ≤ x / y * y := Int.mul_le_mul_of_nonneg_left h4 (Int.ediv_nonneg (by omega) (by omega))
    have e2 : x / y * y ≤ x := Int.ediv_mul_le x (by omega)
    omega

theorem stretch_snd (o a b c d : Int) (ho : 1 ≤ o) (ho2 : o ≤ 10) (hs : GoodS a b = true) (ht : GoodS c d = true) : Both (Snd o a b c d) (fun k => spec_l9Do.f k o a b c d) (fun k => impl_stretched.f k o a b c d) := by
  obtain ⟨a0, a1, b0, b1, ab⟩ := GoodS_nat hs
  obtain ⟨c0, c1, d0, d1, cd⟩ := GoodS_nat ht
  obtain ⟨n, hn, t1, t2⟩ := shift_lo c0 c1
  obtain ⟨p1, p2⟩ := pow_word hn
  have w : ∀ x : Int, -1000000000000 ≤ x → x ≤ 1000000000000 → wrap64 x = x := fun x h0 h1 => wrap_id x (by omega) (by omega)
  have ends : ∀ x y, x ≤ y → -1000000000000 ≤ x → y ≤ 1000000000000 → (∀ u v, a ≤ u → u ≤ b → c ≤ v → v ≤ d → ∃ t, impl_do.f o u v = some (t % 65536) ∧ x ≤ t ∧ t ≤ y) →
      Both (Snd o a b c d) (fun _ : Nat => (spec_l9Ends.f x y).bind fun t => some (t.1, t.2)) (fun _ : Nat => (impl_wrap.f x y).bind fun t => some (t.1, t.2)) := by
    intro x y hxy h0 h3 hd
    refine Both.bindEL (spec_l9Ends_eq x y h0 (by omega) (by omega) h3) (Both.bindER (impl_wrap_eq x y) (Both.now _ ?_))
    obtain ⟨g, he⟩ := ends_snd hxy
    refine ⟨g, fun u v h4 h5 h6 h7 => ?_⟩
    obtain ⟨t, e, h8, h9⟩ := hd u v h4 h5 h6 h7
    exact ⟨_, e, he t h8 h9⟩
  obtain ⟨m1, m2⟩ := mul_word a0 a1 c0 c1
  obtain ⟨m3, m4⟩ := mul_word b0 b1 d0 d1
  unfold spec_l9Do.f impl_stretched.f
  rw [t1]
  refine Both.posR (by omega) ?_
  refine Both.ite (fun h => ?_) (fun _ => ?_)
  · subst h; rw [w (a + c) (by omega) (by omega), w (b + d) (by omega) (by omega)]
    exact ends _ _ (by omega) (by omega) (by omega) fun u v _ _ _ _ => ⟨u + v, do_add u v (by omega) (by omega), by omega, by omega⟩
  refine Both.ite (fun h => ?_) (fun _ => ?_)
  · subst h; rw [w (a - d) (by omega) (by omega), w (b - c) (by omega) (by omega)]
    exact ends _ _ (by omega) (by omega) (by omega) fun u v _ _ _ _ => ⟨u - v, do_sub u v (by omega) (by omega), by omega, by omega⟩
  refine Both.ite (fun h => ?_) (fun _ => ?_)
  · subst h; rw [w (a * c) (by omega) (by omega), w (b * d) (by omega) (by omega)]
    refine ends _ _ (Int.mul_le_mul ab cd c0 b0) (by omega) (by omega) fun u v h1 h2 h3 h4 => ⟨u * v, do_mul u v (by omega) (by omega), Int.mul_le_mul h1 h3 c0 (by omega), Int.mul_le_mul h2 h4 (by omega) b0⟩
  have dvd : ∀ x y : Int, 0 ≤ x → x ≤ 65535 → 0 ≤ y → wrap64 (Int.tdiv x y) = x / y := fun x y h0 h1 h2 => by
    have := Int.ediv_nonneg h0 h2
    have := Int.ediv_le_self y h0
    rw [Int.tdiv_eq_ediv_of_nonneg h0, w _ (by omega) (by omega)]
  refine Both.ite (fun h => ?_) (fun _ => ?_)
  · subst h
    refine Both.ite (fun _ => Both.now _ ⟨GoodS_iff.2 ⟨by omega, b0, b1⟩, fun u v h1 h2 h3 h4 => ⟨_, do_div u v (by omega) (by omega), Int.ediv_nonneg (by omega) (by omega), ?_⟩⟩) (fun hc => ?_)
    · have := Int.ediv_le_self v (show 0 ≤ u by omega); show u / v ≤ b; omega
    · refine Both.negL (by omega) (Both.negR (by omega) (Both.now _ ?_))
      rw [dvd a d a0 a1 d0, dvd b c b0 b1 c0]
      refine ⟨GoodS_iff.2 ⟨Int.ediv_nonneg a0 d0, ?_, ?_⟩, fun u v h1 h2 h3 h4 => ⟨_, do_div u v (by omega) (by omega), div_mono a0 h1 h2 (by omega) h3 h4⟩⟩
      · exact Int.le_trans (div_mono a0 ab (Int.le_refl b) (by omega) cd (Int.le_refl d)).1 (div_mono a0 ab (Int.le_refl b) (by omega) cd (Int.le_refl d)).2
      · have := Int.ediv_le_self c b0; show b / c ≤ 65535; omega
  refine Both.ite (fun h => ?_) (fun _ => ?_)
  · subst h
    have mle : ∀ u v : Int, a ≤ u → u ≤ b → c ≤ v → v ≤ d → 0 ≤ u % v ∧ u % v ≤ b ∧ (0 < c → u % v ≤ d - 1) ∧ (b < c → u % v = u) := by
      intro u v h1 h2 h3 h4
      by_cases hv : v = 0
      · rw [hv, Int.emod_zero]; exact ⟨by omega, h2, fun _ => by omega, fun _ => rfl⟩
      · have e1 := Int.emod_nonneg u hv
        have e2 := Int.emod_lt_of_pos u (show 0 < v by omega)
        have e3 : u % v ≤ u := by
          have := Int.ediv_nonneg (show 0 ≤ u by omega) (show 0 ≤ v by omega)
          have h5 := Int.mul_ediv_add_emod u v
          have h6 := Int.mul_nonneg (show 0 ≤ v by omega) this
          omega
        exact ⟨e1, by omega, fun _ => by omega, fun _ => Int.emod_eq_of_lt (by omega) (by omega)⟩
    unfold spec_l9Mod.f
    by_cases h1 : b < c
    · refine Both.posR h1 (Both.congrL (fun k => ?_) (Both.now _ ?_))
      · rw [if_pos h1]; rfl
      · exact ⟨hs, fun u v h2 h3 h4 h5 => ⟨_, do_mod u v (by omega) (by omega), by rw [(mle u v h2 h3 h4 h5).2.2.2 h1]; exact ⟨h2, h3⟩⟩⟩
    · by_cases h2 : c = 0
      · refine Both.negR h1 (Both.posR h2 (Both.congrL (fun k => ?_) (Both.now _ ?_)))
        · rw [if_neg h1, if_neg (by omega)]; rfl
        · exact ⟨GoodS_iff.2 ⟨by omega, b0, b1⟩, fun u v h2 h3 h4 h5 => ⟨_, do_mod u v (by omega) (by omega), (mle u v h2 h3 h4 h5).1, (mle u v h2 h3 h4 h5).2.1⟩⟩
      · refine Both.negR h1 (Both.negR h2 (Both.congrL (fun k => ?_) (Both.now _ ?_)))
        · rw [if_neg h1, if_pos (by omega), spec_l1Least_eq]; rfl
        · rw [w (d - 1) (by omega) (by omega)]
          refine ⟨GoodS_iff.2 ⟨by show (0 : Int) ≤ 0; omega, le_mn b0 (by omega), ?_⟩, fun u v h2 h3 h4 h5 => ⟨_, do_mod u v (by omega) (by omega), (mle u v h2 h3 h4 h5).1, le_mn (mle u v h2 h3 h4 h5).2.1 ((mle u v h2 h3 h4 h5).2.2.1 (by omega))⟩⟩
          have := (mn_le (a := b) (b := d - 1)).1; show mn b (d - 1) ≤ 65535; omega
  have nat : ∀ u : Int, 0 ≤ u → u ≤ 65535 → ∃ m : Nat, u = (m : Int) ∧ m < 65536 := fun u h0 h1 => ⟨u.toNat, by omega, by omega⟩
  refine Both.ite (fun h => ?_) (fun _ => ?_)
  · subst h
    refine Both.bindEL (spec_l1Least_eq ..) (Both.now _ ?_)
    refine ⟨GoodS_iff.2 ⟨by show (0 : Int) ≤ 0; omega, le_mn b0 d0, ?_⟩, fun u v h1 h2 h3 h4 => ?_⟩
    · have := (mn_le (a := b) (b := d)).1; show mn b d ≤ 65535; omega
    · obtain ⟨p, rfl, hp⟩ := nat u (by omega) (by omega)
      obtain ⟨q, rfl, hq⟩ := nat v (by omega) (by omega)
      refine ⟨_, do_and .., ?_⟩
      rw [bits_and p q (by omega) (by omega)]
      have h5 : p &&& q ≤ p := Nat.and_le_left
      have h6 : p &&& q ≤ q := Nat.and_le_right
      exact ⟨by show (0 : Int) ≤ _; omega, le_mn (by omega) (by omega)⟩
  obtain ⟨r, k, e1, e2, hr, hr2, hk⟩ := ones_snd (mx b d) (mx_le b1 d1)
  have hk2 : 2 ^ k ≤ 65536 := Nat.pow_le_pow_right (n := 2) (show 2 > 0 by decide) hk
  have hmx := le_mx (a := b) (b := d)
  refine Both.ite (fun h => ?_) (fun _ => ?_)
  · subst h
    refine Both.bindEL (spec_l1Most_eq ..) (Both.bindEL (spec_l1Most_eq ..) (Both.bindL e1 (Both.bindR e2 (Both.now _ ?_))))
    refine ⟨GoodS_iff.2 ⟨?_, mx_le (by omega) (by omega), by show r ≤ 65535; omega⟩, fun u v h1 h2 h3 h4 => ?_⟩
    · have := (le_mx (a := a) (b := c)).1; show 0 ≤ mx a c; omega
    · obtain ⟨p, rfl, hp⟩ := nat u (by omega) (by omega)
      obtain ⟨q, rfl, hq⟩ := nat v (by omega) (by omega)
      refine ⟨_, do_or .., ?_⟩
      rw [bits_or p q (by omega) (by omega)]
      have h5 := or_ge (x := p) (y := q)
      have h6 : p ||| q < 2 ^ k := Nat.or_lt_two_pow (by omega) (by omega)
      exact ⟨mx_le (by omega) (by omega), by show ((p ||| q : Nat) : Int) ≤ r; omega⟩
  refine Both.ite (fun h => ?_) (fun _ => ?_)
  · subst h
    refine Both.bindEL (spec_l1Most_eq ..) (Both.bindL e1 (Both.bindR e2 (Both.now _ ?_)))
    refine ⟨GoodS_iff.2 ⟨by show (0 : Int) ≤ 0; omega, by show 0 ≤ r; omega, by show r ≤ 65535; omega⟩, fun u v h1 h2 h3 h4 => ?_⟩
    obtain ⟨p, rfl, hp⟩ := nat u (by omega) (by omega)
    obtain ⟨q, rfl, hq⟩ := nat v (by omega) (by omega)
    refine ⟨_, do_xor .., ?_⟩
    rw [bits_xor p q (by omega) (by omega)]
    have h6 : p ^^^ q < 2 ^ k := Nat.xor_lt_two_pow (by omega) (by omega)
    exact ⟨by show (0 : Int) ≤ _; omega, by show ((p ^^^ q : Nat) : Int) ≤ r; omega⟩
  unfold spec_l9Shift.f
  rw [t2, shl_one n (by omega), shl_nat a n (by omega), shl_nat b n (by omega), shr_nat a n (by omega), shr_nat b n (by omega)]
  have dol : ∀ u v : Int, a ≤ u → u ≤ b → v = c → o = 9 → impl_do.f o u v = some ((u * ((2 ^ n : Nat) : Int)) % 65536) := fun u v h1 h2 h3 h4 => by subst h3 h4; exact do_shl u v n hn t1 (by omega)
  have dor : ∀ u v : Int, a ≤ u → u ≤ b → v = c → ¬ o = 9 → impl_do.f o u v = some (u / ((2 ^ n : Nat) : Int)) := fun u v h1 h2 h3 h4 => by subst h3; exact do_shr o u v n hn t1 (by omega)
  have all9 : ∀ u v : Int, a ≤ u → u ≤ b → c ≤ v → v ≤ d → o = 9 → ∃ z, impl_do.f o u v = some z ∧ 0 ≤ z ∧ z ≤ 65535 := fun u v h1 h2 h3 h4 h5 => by
    subst h5
    obtain ⟨n', hn', t', _⟩ := shift_lo (b := v) (by omega) (by omega)
    exact ⟨_, do_shl u v n' hn' t' (by omega), by omega, by omega⟩
  have all10 : ∀ u v : Int, a ≤ u → u ≤ b → c ≤ v → v ≤ d → ¬ o = 9 → ∃ z, impl_do.f o u v = some z ∧ 0 ≤ z ∧ z ≤ b := fun u v h1 h2 h3 h4 h5 => by
    obtain ⟨n', hn', t', _⟩ := shift_lo (b := v) (by omega) (by omega)
    obtain ⟨p1', p2'⟩ := pow_word hn'
    have := Int.ediv_le_self ((2 ^ n' : Nat) : Int) (show 0 ≤ u by omega)
    exact ⟨_, do_shr o u v n' hn' t' (by omega), Int.ediv_nonneg (by omega) (by omega), by omega⟩
  generalize ((2 ^ n : Nat) : Int) = p at p1 p2 dol dor ⊢
  obtain ⟨q1, q2⟩ := mul_word a0 a1 (show 0 ≤ p by omega) (by omega)
  obtain ⟨q3, q4⟩ := mul_word b0 b1 (show 0 ≤ p by omega) (by omega)
  rw [dvd a p a0 a1 (by omega), dvd b p b0 b1 (by omega), w (a * p) (by omega) (by omega), w (b * p) (by omega) (by omega)]
  by_cases h9 : o = 9
  · refine Both.posR h9 ?_
    by_cases hcd : c = d
    · obtain ⟨g, he⟩ := ends_snd (Int.mul_le_mul_of_nonneg_right ab (show 0 ≤ p by omega))
      refine Both.posR hcd (Both.bindER (impl_wrap_eq ..) (Both.congrL (fun k => ?_) (Both.now _ ?_)))
      · rw [if_pos h9, if_pos hcd, if_pos (by omega), spec_l9Ends_eq _ _ (by omega) (by omega) (by omega) (by omega)]; rfl
      · exact ⟨g, fun u v h1 h2 h3 h4 => ⟨_, dol u v h1 h2 (by omega) h9, he _ (Int.mul_le_mul_of_nonneg_right h1 (by omega)) (Int.mul_le_mul_of_nonneg_right h2 (by omega))⟩⟩
    · refine Both.negR hcd (Both.congrL (fun k => ?_) (Both.now _ ?_))
      · rw [if_pos h9, if_neg hcd]; rfl
      · exact ⟨by decide, fun u v h1 h2 h3 h4 => all9 u v h1 h2 h3 h4 h9⟩
  · refine Both.negR h9 ?_
    by_cases hcd : c = d
    · refine Both.posR hcd (Both.negR (by omega) (Both.congrL (fun k => ?_) (Both.now _ ?_)))
      · rw [if_neg h9, if_pos hcd, if_pos (by omega)]; rfl
      · have hm : ∀ u v : Int, u ≤ v → u / p ≤ v / p := fun u v h => Int.ediv_le_ediv (by omega) h
        refine ⟨GoodS_iff.2 ⟨Int.ediv_nonneg a0 (by omega), hm _ _ ab, ?_⟩, fun u v h1 h2 h3 h4 => ⟨_, dor u v h1 h2 (by omega) h9, hm _ _ h1, hm _ _ h2⟩⟩
        have := Int.ediv_le_self p b0; show b / p ≤ 65535; omega
    · refine Both.negR hcd (Both.congrL (fun k => ?_) (Both.now _ ?_))
      · rw [if_neg h9, if_neg hcd]; rfl
      · exact ⟨GoodS_iff.2 ⟨by show (0 : Int) ≤ 0; omega, b0, b1⟩, fun u v h1 h2 h3 h4 => all10 u v h1 h2 h3 h4 h9⟩

theorem DoStretch_cases (o a b c d : Int) : (∃ r : Int × Int, Ev (fun k => spec_DoStretch.f k o a b c d) (r.1, r.2, true) ∧ Ev (fun k => impl_DoStretch.f k o a b c d) (r.1, r.2, true) ∧ (1 ≤ o ∧ o ≤ 10) ∧ GoodS a b = true ∧ GoodS c d = true ∧ Snd o a b c d r) ∨
    (Ev (fun k => spec_DoStretch.f k o a b c d) (0, 0, false) ∧ Ev (fun k => impl_DoStretch.f k o a b c d) (0, 0, false)) := by
  by_cases h1 : In o 1 10 = true
  · by_cases h2 : (GoodS a b && GoodS c d) = true
    · left
      have h3 := In_true.1 h1
      have h4 := h2
      rw [Bool.and_eq_true] at h4
      obtain ⟨r, e1, e2, hs⟩ := stretch_snd o a b c d h3.1 h3.2 h4.1 h4.2
      refine ⟨r, ?_, ?_, h3, h4.1, h4.2, hs⟩
      · unfold spec_DoStretch.f; exact Ev.bindE (spec_l1In_eq ..) <| Ev.pos h1 <| Ev.bindE (spec_l9Two_eq ..) <| Ev.pos h2 <| Ev.bind e1 (Ev.now _)
      · unfold impl_DoStretch.f; exact Ev.bindE (impl_isOp_eq ..) <| Ev.pos h1 <| Ev.bindE (impl_two_eq ..) <| Ev.pos h2 <| Ev.bind e2 (Ev.now _)
    · right
      constructor
      · unfold spec_DoStretch.f; exact Ev.bindE (spec_l1In_eq ..) <| Ev.pos h1 <| Ev.bindE (spec_l9Two_eq ..) <| Ev.neg h2 (Ev.now _)
      · unfold impl_DoStretch.f; exact Ev.bindE (impl_isOp_eq ..) <| Ev.pos h1 <| Ev.bindE (impl_two_eq ..) <| Ev.neg h2 (Ev.now _)
  · right
    constructor
    · unfold spec_DoStretch.f; exact Ev.bindE (spec_l1In_eq ..) <| Ev.neg h1 (Ev.now _)
    · unfold impl_DoStretch.f; exact Ev.bindE (impl_isOp_eq ..) <| Ev.neg h1 (Ev.now _)

theorem doOp_ok {o x y z : Int} (ho : 1 ≤ o ∧ o ≤ 10) (hx : 0 ≤ x ∧ x ≤ 65535) (hy : 0 ≤ y ∧ y ≤ 65535) (h : impl_do.f o x y = some z) : impl_DoOp.f o x y = some (z, true) := by
  unfold impl_DoOp.f
  rw [impl_isOp_eq, impl_isWord_eq, impl_isWord_eq, In_true.2 ho, In_true.2 hx, In_true.2 hy, h]; rfl

theorem at_in' {a n N : Int} (h0 : 0 ≤ a) (h1 : a ≤ 65535) (hn : 1 ≤ n) (hn2 : n ≤ 65536) (hN : 0 ≤ N) : a ≤ wrap64 (a + Int.tmod N n) ∧ wrap64 (a + Int.tmod N n) ≤ a + n - 1 := by
  have h2 := tmod_lt hN (show 0 < n by omega)
  generalize Int.tmod N n = z at h2
  unfold wrap64
  omega
theorem st_x {t q : Int} (h0 : 0 ≤ t) (h1 : t ≤ 1000002) (h2 : 0 ≤ q) (h3 : q ≤ 121) : 0 ≤ wrap64 (t + wrap64 (wrap64 q * 7919)) := by
  rw [wrap_id q (by omega) (by omega), wrap_id (q * 7919) (by omega) (by omega), wrap_id _ (by omega) (by omega)]; omega
theorem st_y {t i : Int} (h0 : 0 ≤ t) (h1 : t ≤ 1000002) (h2 : 0 ≤ i) (h3 : i ≤ 11) : 0 ≤ wrap64 (wrap64 (Int.tdiv t 3) + wrap64 (i * 104729)) := by
  rw [Int.tdiv_eq_ediv_of_nonneg h0, wrap_id (t / 3) (by omega) (by omega), wrap_id (i * 104729) (by omega) (by omega), wrap_id _ (by omega) (by omega)]; omega
theorem j4_ok {l : List Int} (hl : Bytes l) : Ev (fun k => laws_FnStretches.j4 k l) true := by
  have h : EvP (fun k => spec_DrawInStretch.f k l) (fun _ => True) := by
    unfold spec_DrawInStretch.f
    exact EvP.bind (stretch_ok hl 0 0 (by omega) (by omega)) fun p hp => EvP.bindE (rawWord_ok hl _ _ (by omega) (by omega)) fun q hq => EvP.now _ trivial
  obtain ⟨⟨a, b, n⟩, e, _⟩ := h
  refine Ev.step (fun k => laws_FnStretches.j4.eq_2 ..) ?_
  exact Ev.bind e <| Ev.bindE (impl_InStretch_eq ..) <| Ev.bindE (spec_InStretch_eq ..) <| Ev.bindE (impl_SizeOf_eq ..) <| Ev.bindE (spec_SizeOf_eq ..) <| Ev.pos (by simp) <| Ev.pos (by simp) <| Ev.pos (by simp) <| Ev.at_ (Ev.now _) (by simp)
theorem j3_ok {o a b c d : Int} {r : Int × Int} (ho : 1 ≤ o ∧ o ≤ 10) (hs : GoodS a b = true) (ht : GoodS c d = true) (hr : Snd o a b c d r) (l : List Int) (n m i x y : Int) (h1 : a ≤ x) (h2 : x ≤ b) (h3 : c ≤ y) (h4 : y ≤ d)
    (h : Ev (fun k => laws_FnStretches.l0 k l o n m (wrap64 (i + 1)) a b c d r.1 r.2) true) : Ev (fun k => laws_FnStretches.j3 k l o n m i x y a b c d r.1 r.2) true := by
  obtain ⟨a0, a1, a2⟩ := GoodS_iff.1 hs
  obtain ⟨c0, c1, c2⟩ := GoodS_iff.1 ht
  obtain ⟨z, e, z1, z2⟩ := hr.2 x y h1 h2 h3 h4
  obtain ⟨g0, g1, g2⟩ := GoodS_iff.1 hr.1
  refine Ev.step (fun k => laws_FnStretches.j3.eq_2 ..) ?_
  refine Ev.bindE (doOp_ok ho (by omega) (by omega) e) <| Ev.bindE (impl_InStretch_eq ..) ?_
  rw [hr.1, In_true.2 (show (0 : Int) ≤ z ∧ z ≤ 65535 by omega), In_true.2 ⟨z1, z2⟩]
  exact Ev.pos rfl <| Ev.pos rfl <| Ev.pos rfl h
theorem l0_ok {o a b c d : Int} {r : Int × Int} (ho : 1 ≤ o ∧ o ≤ 10) (hs : GoodS a b = true) (ht : GoodS c d = true) (hr : Snd o a b c d r) {l : List Int} (hl : Bytes l) (n m : Int) (hn : n = b - a + 1) (hm : m = d - c + 1) :
    ∀ (q i : Nat), i + q = 12 → Ev (fun k => laws_FnStretches.l0 k l o n m (i : Int) a b c d r.1 r.2) true
  | 0, i, hi => Ev.step (fun k => laws_FnStretches.l0.eq_2 ..) (Ev.neg (by omega) (j4_ok hl))
  | q + 1, i, hi => by
    obtain ⟨a0, a1, a2⟩ := GoodS_iff.1 hs
    obtain ⟨c0, c1, c2⟩ := GoodS_iff.1 ht
    obtain ⟨t, e, t0, t1⟩ := numberOf_loop hl l.length 0 0 (by omega) (by omega) (by omega)
    have ih := l0_ok ho hs ht hr hl n m hn hm q (i + 1) (by omega)
    rw [← w1 i (by omega)] at ih
    have next := fun x y h1 h2 h3 h4 => j3_ok ho hs ht hr l n m (i : Int) x y h1 h2 h3 h4 ih
    have hq : 0 ≤ (i : Int) * (i : Int) ∧ (i : Int) * (i : Int) ≤ 121 := ⟨Int.mul_nonneg (by omega) (by omega), by
      have := Int.mul_le_mul (show (i : Int) ≤ 11 by omega) (show (i : Int) ≤ 11 by omega) (by omega) (by omega); omega⟩
    refine Ev.step (fun k => laws_FnStretches.l0.eq_2 ..) (Ev.pos (by omega) (Ev.bind e (Ev.neg (by omega) (Ev.bind e (Ev.neg (by omega) ?_)))))
    by_cases i0 : (i : Int) = 0
    · exact Ev.pos i0 (next _ _ (by omega) (by omega) (by omega) (by omega))
    refine Ev.neg i0 ?_
    by_cases i1 : (i : Int) = 1
    · exact Ev.pos i1 (next _ _ (by omega) (by omega) (by omega) (by omega))
    refine Ev.neg i1 ?_
    by_cases i2 : (i : Int) = 2
    · exact Ev.pos i2 (next _ _ (by omega) (by omega) (by omega) (by omega))
    refine Ev.neg i2 ?_
    have k1 := st_x t0 t1 hq.1 hq.2
    have k2 := st_y t0 t1 (show 0 ≤ (i : Int) by omega) (show (i : Int) ≤ 11 by omega)
    have r1 := at_in' (a := a) (n := n) a0 (by omega) (by omega) (by omega) k1
    have r2 := at_in' (a := c) (n := m) c0 (by omega) (by omega) (by omega) k2
    exact next _ _ r1.1 (by omega) r2.1 (by omega)
theorem FnStretches : laws_FnStretches.Pure := by
  intro l0 l1 _ y0 hw0 _ y1 hw1
  refine Ev.rounds ?_
  unfold laws_FnStretches.f
  by_cases hlen : wrap64 ((l0.length : Int) + (l1.length : Int)) > 1048576
  · exact Ev.pos hlen (Ev.now _)
  refine Ev.neg hlen ?_
  obtain ⟨s0, s1⟩ := small_of hlen y0 y1
  have hb0 := bytes_of ⟨y0, hw0⟩ s0
  have hb1 := bytes_of ⟨y1, hw1⟩ s1
  have h : EvP (fun k => spec_DrawDoStretch.f k l0) (fun _ => True) := by
    unfold spec_DrawDoStretch.f
    exact EvP.bindE (pick_ok hb0 0 0 10 (by omega) (by omega)) fun p hp => EvP.bindE (pick_ok hb0 _ _ 20 (by omega) (by omega)) fun q hq => EvP.bind (stretch_ok hb0 _ _ (by omega) (by omega)) fun p hp => EvP.bind (stretch_ok hb0 _ _ (by omega) (by omega)) fun p hp => EvP.now _ trivial
  obtain ⟨⟨o, a, b, c, d⟩, e, _⟩ := h
  refine Ev.bind e ?_
  rcases DoStretch_cases o a b c d with ⟨r, e1, e2, ho, hs, ht, hr⟩ | ⟨e1, e2⟩
  · refine Ev.bind e2 <| Ev.bind e1 <| Ev.neg (by simp) <| Ev.neg (by simp) <| Ev.bindE (impl_GoodStretch_eq ..) <| Ev.bindE (spec_GoodStretch_eq ..) ?_
    refine Ev.step (fun k => laws_FnStretches.j0.eq_2 ..) (Ev.neg (by simp) (Ev.pos rfl ?_))
    obtain ⟨a0, a1, a2⟩ := GoodS_iff.1 hs
    obtain ⟨c0, c1, c2⟩ := GoodS_iff.1 ht
    refine Ev.bindE (impl_SizeOf_eq ..) <| Ev.bindE (impl_SizeOf_eq ..) <| Ev.bindE (impl_GoodStretch_eq ..) ?_
    rw [hs, ht, hr.1]
    refine Ev.pos rfl <| Ev.pos rfl ?_
    refine Ev.step (fun k => laws_FnStretches.j1.eq_2 ..) (Ev.neg (by simp) ?_)
    exact l0_ok ho hs ht hr hb1 _ _ (by show wrap64 (wrap64 (b - a) + 1) = _; unfold wrap64; omega) (by show wrap64 (wrap64 (d - c) + 1) = _; unfold wrap64; omega) 12 0 (by omega)
  · refine Ev.bind e2 <| Ev.bind e1 <| Ev.neg (by simp) <| Ev.neg (by simp) <| Ev.bindE (impl_GoodStretch_eq ..) <| Ev.bindE (spec_GoodStretch_eq ..) ?_
    exact Ev.step (fun k => laws_FnStretches.j0.eq_2 ..) (Ev.neg (by simp) (Ev.neg (by simp) (j4_ok hb1)))

end Go.Proofs.Ytggddmpomdpdjaa.Pure
