/- Proved here: the pure statement of the law FnExactNumberAt: what the printed functions compute answers true. Conditions: the statement's own bounds. -/
import Derived.Test.YtggddmpomdpdjaaPHNx1
import Derived.Test.YtggddmpomdpdjaaPHNx2
namespace Go.Proofs.Ytggddmpomdpdjaa.Pure
open Go Go.RowKit Go.Proofs.Ytggddmpomdpdjaa.PHN Go.Proofs.YtggddmpomdpdjaaW.PrintWords Go.Proofs.YtggddmpomdpdjaaW.PrintLast Go.Proofs.YtggddmpomdpdjaaW.PrintMore
set_option linter.unusedVariables false
set_option linter.unusedSimpArgs false

/-- A number lies between two. -/
def In (a lo hi : Int) : Bool := decide (lo ≤ a) && decide (a ≤ hi)
theorem In_true {a lo hi : Int} : In a lo hi = true ↔ lo ≤ a ∧ a ≤ hi := by simp [In]
theorem In_false {a lo hi : Int} : In a lo hi = false ↔ ¬ (lo ≤ a ∧ a ≤ hi) := by rw [← In_true]; simp
theorem In_ite {a lo hi : Int} : (if a ≥ lo then some (decide (a ≤ hi)) else some false) = some (In a lo hi) := by
  unfold In; by_cases h : lo ≤ a <;> simp [h]
theorem ite_some {α : Type} {c : Prop} [Decidable c] (a b : α) : (if c then some a else some b) = some (if c then a else b) := by split <;> rfl
theorem ne_self_bool (b : Bool) : ((b != b) = true) = False := by simp

theorem spec_l1In_eq (a b c : Int) : spec_l1In.f a b c = some (In a b c) := by unfold spec_l1In.f; exact In_ite

theorem impl_in_eq (a b c : Int) : impl_in.f a b c = some (In a b c) := by unfold impl_in.f; exact In_ite

theorem spec_l1Word_eq (a : Int) : spec_l1Word.f a = some (In a 0 65535) := by unfold spec_l1Word.f; rw [spec_l1In_eq]; rfl

theorem impl_isWord_eq (a : Int) : impl_isWord.f a = some (In a 0 65535) := by unfold impl_isWord.f; rw [impl_in_eq]; rfl

/-- The bits of a number that another one has not. -/
def andn (a b : Nat) : Nat := a ^^^ (a &&& b)
theorem testBit_andn (a b i : Nat) : (andn a b).testBit i = (a.testBit i && !b.testBit i) := by
  unfold andn; rw [Nat.testBit_xor, Nat.testBit_and]; cases a.testBit i <;> cases b.testBit i <;> rfl
theorem andn_le (a b : Nat) : andn a b ≤ a := by
  have h : andn a b &&& a = andn a b := by
    apply Nat.eq_of_testBit_eq; intro i; rw [Nat.testBit_and, testBit_andn]; cases a.testBit i <;> cases b.testBit i <;> rfl
  rw [← h]; exact Nat.and_le_right
theorem wrap_i64_nat (n : Nat) (h : n < 9223372036854775808) : IntKind.i64.wrap (n : Int) = n := by
  rw [IntKind.wrap_i64]; omega
theorem ofInt_nat (n : Nat) : BitVec.ofInt 64 (n : Int) = BitVec.ofNat 64 n := BitVec.ofInt_natCast 64 n
theorem bits_and (a b : Nat) (ha : a < 9223372036854775808) (hb : b < 9223372036854775808) : Go.bits .and .i64 a b = ((a &&& b : Nat) : Int) := by
  show IntKind.i64.wrap (((BitVec.ofInt 64 (a : Int)) &&& (BitVec.ofInt 64 (b : Int))).toNat : Int) = _
  rw [ofInt_nat, ofInt_nat, BitVec.toNat_and, BitVec.toNat_ofNat, BitVec.toNat_ofNat, Nat.mod_eq_of_lt (by omega), Nat.mod_eq_of_lt (by omega)]
  exact wrap_i64_nat _ (Nat.lt_of_le_of_lt Nat.and_le_left ha)
theorem or_lt63 {a b : Nat} (ha : a < 9223372036854775808) (hb : b < 9223372036854775808) : a ||| b < 9223372036854775808 := Nat.or_lt_two_pow (n := 63) ha hb
theorem xor_lt63 {a b : Nat} (ha : a < 9223372036854775808) (hb : b < 9223372036854775808) : a ^^^ b < 9223372036854775808 := Nat.xor_lt_two_pow (n := 63) ha hb
theorem bits_or (a b : Nat) (ha : a < 9223372036854775808) (hb : b < 9223372036854775808) : Go.bits .or .i64 a b = ((a ||| b : Nat) : Int) := by
  show IntKind.i64.wrap (((BitVec.ofInt 64 (a : Int)) ||| (BitVec.ofInt 64 (b : Int))).toNat : Int) = _
  rw [ofInt_nat, ofInt_nat, BitVec.toNat_or, BitVec.toNat_ofNat, BitVec.toNat_ofNat, Nat.mod_eq_of_lt (by omega), Nat.mod_eq_of_lt (by omega)]
  exact wrap_i64_nat _ (or_lt63 ha hb)
theorem bits_xor (a b : Nat) (ha : a < 9223372036854775808) (hb : b < 9223372036854775808) : Go.bits .xor .i64 a b = ((a ^^^ b : Nat) : Int) := by
  show IntKind.i64.wrap (((BitVec.ofInt 64 (a : Int)) ^^^ (BitVec.ofInt 64 (b : Int))).toNat : Int) = _
  rw [ofInt_nat, ofInt_nat, BitVec.toNat_xor, BitVec.toNat_ofNat, BitVec.toNat_ofNat, Nat.mod_eq_of_lt (by omega), Nat.mod_eq_of_lt (by omega)]
  exact wrap_i64_nat _ (xor_lt63 ha hb)
theorem bits_andNot (a b : Nat) (ha : a < 9223372036854775808) (hb : b < 9223372036854775808) : Go.bits .andNot .i64 a b = ((andn a b : Nat) : Int) := by
  show IntKind.i64.wrap (((BitVec.ofInt 64 (a : Int)) &&& ~~~ (BitVec.ofInt 64 (b : Int))).toNat : Int) = _
  rw [ofInt_nat, ofInt_nat]
  have h : (BitVec.ofNat 64 a &&& ~~~ BitVec.ofNat 64 b).toNat = andn a b := by
    apply Nat.eq_of_testBit_eq; intro i
    rw [testBit_andn]
    by_cases hi : i < 64
    · rw [BitVec.testBit_toNat, BitVec.getLsbD_and, BitVec.getLsbD_not, BitVec.getLsbD_ofNat, BitVec.getLsbD_ofNat]
      simp [hi]
    · have h1 : a.testBit i = false := Nat.testBit_lt_two_pow (Nat.lt_of_lt_of_le ha (by have := Nat.pow_le_pow_right (show 0 < 2 by decide) (show 63 ≤ i by omega); omega))
      rw [h1, BitVec.testBit_toNat, BitVec.getLsbD_of_ge _ _ (by omega)]; rfl
  rw [h]
  exact wrap_i64_nat _ (Nat.lt_of_le_of_lt (andn_le a b) ha)
theorem and_zero_bit {a b : Nat} (h : a &&& b = 0) (i : Nat) : (a.testBit i && b.testBit i) = false := by rw [← Nat.testBit_and, h]; simp
theorem nat_of {x hi : Int} (h : In x 0 hi = true) : ∃ n : Nat, x = (n : Int) ∧ (n : Int) ≤ hi := by
  have h := In_true.1 h
  exact ⟨x.toNat, by omega, by omega⟩

theorem word_or {a b : Nat} (ha : a < 65536) (hb : b < 65536) : a ||| b < 65536 := Nat.or_lt_two_pow (n := 16) ha hb
theorem word_xor {a b : Nat} (ha : a < 65536) (hb : b < 65536) : a ^^^ b < 65536 := Nat.xor_lt_two_pow (n := 16) ha hb
theorem word_and {a b : Nat} (ha : a < 65536) : a &&& b < 65536 := Nat.lt_of_le_of_lt Nat.and_le_left ha
theorem word_andn {a b : Nat} (ha : a < 65536) : andn a b < 65536 := Nat.lt_of_le_of_lt (andn_le a b) ha

theorem Ev.pos {α : Type} {c : Prop} [Decidable c] {A B : Nat → Option α} {r : α} (h : c) (e : Ev A r) : Ev (fun k => if c then A k else B k) r := Ev.congr (fun _ => if_pos h) e
theorem Ev.neg {α : Type} {c : Prop} [Decidable c] {A B : Nat → Option α} {r : α} (h : ¬ c) (e : Ev B r) : Ev (fun k => if c then A k else B k) r := Ev.congr (fun _ => if_neg h) e
theorem Ev.bindE {α β : Type} {g : Option α} {f : Nat → α → Option β} {a : α} {r : β} (h : g = some a) (k : Ev (fun n => f n a) r) : Ev (fun n => g.bind (f n)) r := by subst h; exact k
theorem Ev.at_ {α : Type} {g : Nat → Option α} {r r' : α} (h : Ev g r) (e : r = r') : Ev g r' := e ▸ h
theorem Ev.one {α : Type} {g : Nat → Option α} {r r' : α} (h : Ev g r) (h' : Ev g r') : r = r' := by
  obtain ⟨K, h⟩ := h; obtain ⟨K', h'⟩ := h'
  have a := h (max K K') (by omega); have b := h' (max K K') (by omega)
  rw [a] at b; exact Option.some.inj b
/-- Two texts come to one answer, of which P holds. -/
def Both {α : Type} (P : α → Prop) (g f : Nat → Option α) : Prop := ∃ r, Ev g r ∧ Ev f r ∧ P r
theorem Both.now {α : Type} {P : α → Prop} (r : α) (h : P r) : Both P (fun _ => some r) (fun _ => some r) := ⟨r, Ev.now r, Ev.now r, h⟩
theorem Both.now2 {α : Type} {P : α → Prop} (r r' : α) (e : r = r') (h : P r) : Both P (fun _ => some r) (fun _ => some r') := ⟨r, Ev.now r, e ▸ Ev.now r, h⟩
theorem Both.mono {α : Type} {P Q : α → Prop} {g f : Nat → Option α} (h : Both P g f) (hq : ∀ r, P r → Q r) : Both Q g f := by obtain ⟨r, a, b, c⟩ := h; exact ⟨r, a, b, hq r c⟩
theorem Both.congrL {α : Type} {P : α → Prop} {g g' f : Nat → Option α} (e : ∀ k, g k = g' k) (h : Both P g' f) : Both P g f := by obtain ⟨r, a, b, c⟩ := h; exact ⟨r, a.congr e, b, c⟩
theorem Both.congrR {α : Type} {P : α → Prop} {g f f' : Nat → Option α} (e : ∀ k, f k = f' k) (h : Both P g f') : Both P g f := by obtain ⟨r, a, b, c⟩ := h; exact ⟨r, a, b.congr e, c⟩
theorem Both.posL {α : Type} {P : α → Prop} {c : Prop} [Decidable c] {A B f : Nat → Option α} (h : c) (e : Both P A f) : Both P (fun k => if c then A k else B k) f := e.congrL (fun _ => if_pos h)
theorem Both.negL {α : Type} {P : α → Prop} {c : Prop} [Decidable c] {A B f : Nat → Option α} (h : ¬ c) (e : Both P B f) : Both P (fun k => if c then A k else B k) f := e.congrL (fun _ => if_neg h)
theorem Both.posR {α : Type} {P : α → Prop} {c : Prop} [Decidable c] {A B f : Nat → Option α} (h : c) (e : Both P f A) : Both P f (fun k => if c then A k else B k) := e.congrR (fun _ => if_pos h)
theorem Both.negR {α : Type} {P : α → Prop} {c : Prop} [Decidable c] {A B f : Nat → Option α} (h : ¬ c) (e : Both P f B) : Both P f (fun k => if c then A k else B k) := e.congrR (fun _ => if_neg h)
theorem Both.ite {α : Type} {P : α → Prop} {c : Prop} [Decidable c] {A B A' B' : Nat → Option α} (h1 : c → Both P A A') (h2 : ¬ c → Both P B B') : Both P (fun k => if c then A k else B k) (fun k => if c then A' k else B' k) := by
  by_cases h : c
  · exact ((h1 h).posL h).posR h
  · exact ((h2 h).negL h).negR h
theorem Both.stepL {α : Type} {P : α → Prop} {g g' f : Nat → Option α} (e : ∀ k, g (k + 1) = g' k) (h : Both P g' f) : Both P g f := by obtain ⟨r, a, b, c⟩ := h; exact ⟨r, a.step e, b, c⟩
theorem Both.stepR {α : Type} {P : α → Prop} {g f f' : Nat → Option α} (e : ∀ k, f (k + 1) = f' k) (h : Both P g f') : Both P g f := by obtain ⟨r, a, b, c⟩ := h; exact ⟨r, a, b.step e, c⟩
theorem Both.bindL {α β : Type} {P : β → Prop} {g : Nat → Option α} {F : Nat → α → Option β} {f : Nat → Option β} {a : α} (h : Ev g a) (e : Both P (fun k => F k a) f) : Both P (fun k => (g k).bind (F k)) f := by obtain ⟨r, x, y, c⟩ := e; exact ⟨r, Ev.bind h x, y, c⟩
theorem Both.bindR {α β : Type} {P : β → Prop} {g : Nat → Option α} {F : Nat → α → Option β} {f : Nat → Option β} {a : α} (h : Ev g a) (e : Both P f (fun k => F k a)) : Both P f (fun k => (g k).bind (F k)) := by obtain ⟨r, x, y, c⟩ := e; exact ⟨r, x, Ev.bind h y, c⟩
theorem Both.bindEL {α β : Type} {P : β → Prop} {g : Option α} {F : Nat → α → Option β} {f : Nat → Option β} {a : α} (h : g = some a) (e : Both P (fun k => F k a) f) : Both P (fun k => g.bind (F k)) f := by subst h; exact e
theorem Both.bindER {α β : Type} {P : β → Prop} {g : Option α} {F : Nat → α → Option β} {f : Nat → Option β} {a : α} (h : g = some a) (e : Both P f (fun k => F k a)) : Both P f (fun k => g.bind (F k)) := by subst h; exact e
theorem Both.bind2 {α β : Type} {P : β → Prop} {Q : α → Prop} {g g' : Nat → Option α} {F F' : Nat → α → Option β} (h : Both Q g g') (e : ∀ a, Q a → Both P (fun k => F k a) (fun k => F' k a)) : Both P (fun k => (g k).bind (F k)) (fun k => (g' k).bind (F' k)) := by
  obtain ⟨a, x, y, c⟩ := h
  exact ((e a c).bindL x).bindR y
theorem Both.self {α : Type} {P : α → Prop} {g : Nat → Option α} {r : α} (h : Ev g r) (p : P r) : Both P g g := ⟨r, h, h, p⟩
theorem w1 (i : Nat) (h : i < 4611686018427387904) : wrap64 ((i : Int) + 1) = ((i + 1 : Nat) : Int) := by unfold wrap64; omega
theorem wrap_id (x : Int) (h0 : -9223372036854775808 ≤ x) (h1 : x ≤ 9223372036854775807) : wrap64 x = x := by unfold wrap64; omega
theorem rd_nat (l : List Int) (i : Nat) (h : i < l.length) : rd l (i : Int) = l[i] := by unfold rd; simp [List.getD, h]
theorem rdOf_nat {α : Type} (d : α) (l : List α) (i : Nat) (h : i < l.length) : rdOf d l (i : Int) = l[i] := by unfold rdOf; simp [List.getD, h]
theorem set_take {α : Type} (l : List α) (i : Nat) (v : α) (h : i < l.length) : (l.set i v).take (i + 1) = l.take i ++ [v] := by
  rw [List.take_succ_eq_append_getElem (by simpa using h), List.take_set_of_le (Nat.le_refl i)]; simp

theorem u64_nat (i : Nat) (h : i < 9223372036854775808) : IntKind.u64.wrap (i : Int) = (i : Int) := by
  have : IntKind.u64.wrap (i : Int) = (i : Int) % 18446744073709551616 := by simp [IntKind.wrap, IntKind.bits, IntKind.signed]
  rw [this]; omega
theorem shl_one (n : Nat) (h : n ≤ 60) : shl .i64 1 (n : Int) = ((2 ^ n : Nat) : Int) := by
  have hb : IntKind.i64.bits = 64 := rfl
  unfold shl
  rw [Int.toNat_natCast, hb, Nat.min_eq_left (by omega), Int.one_mul]
  have h1 : 2 ^ n ≤ 2 ^ 60 := Nat.pow_le_pow_right (by decide) h
  have h2 : ((2 : Int) ^ n) = ((2 ^ n : Nat) : Int) := by rw [Int.natCast_pow]; rfl
  rw [h2]; exact wrap_i64_nat _ (by omega)
/-- Bit i of a number, as the programs read it. -/
def bitM (x : Int) (i : Nat) : Bool := Go.bits .and .i64 (shr .i64 x (i : Int)) 1 == 1
def modelM (n : Nat) (x : Int) : List Bool := (List.range n).map (fun i => bitM x i)
theorem modelM_len (n : Nat) (x : Int) : (modelM n x).length = n := by simp [modelM]

def GoodK (v m : Int) : Bool := In v 0 65535 && In m 0 65535 && (Go.bits .and .i64 v m == 0)
def GoodS (lo hi : Int) : Bool := In lo 0 65535 && In hi 0 65535 && decide (lo ≤ hi)

theorem toKnown_eq (a b : Int) : laws_toKnown.f a b = some (a, b) := rfl

theorem spec_GoodKnown_eq (a b : Int) : spec_GoodKnown.f a b = some (GoodK a b) := by
  unfold spec_GoodKnown.f GoodK; simp only [spec_l1Word_eq, Option.bind_some]
  cases In a 0 65535 <;> cases In b 0 65535 <;> simp

theorem impl_GoodKnown_eq (a b : Int) : impl_GoodKnown.f a b = some (GoodK a b) := by
  unfold impl_GoodKnown.f GoodK; simp only [impl_isWord_eq, Option.bind_some]
  cases In a 0 65535 <;> cases In b 0 65535 <;> simp

def JoinK (a b c d : Int) : Int × Int := (Go.bits .andNot .i64 a (Go.bits .or .i64 (Go.bits .or .i64 b d) (Go.bits .xor .i64 a c)), Go.bits .or .i64 (Go.bits .or .i64 b d) (Go.bits .xor .i64 a c))

def JoinS (a b c d : Int) : Int × Int := (mn a c, mx b d)

def MeetS (a b c d : Int) : Int × Int × Bool := if mx a c > mn b d then (0, 0, false) else (mx a c, mn b d, true)

def LessS (a b c d : Int) : Int × Int × Int × Int × Bool := if a ≥ d then (0, 0, 0, 0, false) else (a, mn b (wrap64 (d - 1)), mx c (wrap64 (a + 1)), d, true)

theorem GoodK_nat {v m : Int} (h : GoodK v m = true) : ∃ a b : Nat, v = a ∧ m = b ∧ a < 65536 ∧ b < 65536 ∧ a &&& b = 0 := by
  unfold GoodK at h
  simp only [Bool.and_eq_true, beq_iff_eq] at h
  obtain ⟨⟨h1, h2⟩, h3⟩ := h
  obtain ⟨a, rfl, ha⟩ := nat_of h1
  obtain ⟨b, rfl, hb⟩ := nat_of h2
  rw [bits_and a b (by omega) (by omega)] at h3
  exact ⟨a, b, rfl, rfl, by omega, by omega, by omega⟩

theorem wrap_u64 (n : Int) : IntKind.u64.wrap n = n % 18446744073709551616 := by simp [IntKind.wrap, IntKind.bits, IntKind.signed]
theorem bitsU_and (a b : Nat) (ha : a < 18446744073709551616) (hb : b < 18446744073709551616) : Go.bits .and .u64 a b = ((a &&& b : Nat) : Int) := by
  show IntKind.u64.wrap (((BitVec.ofInt 64 (a : Int)) &&& (BitVec.ofInt 64 (b : Int))).toNat : Int) = _
  rw [ofInt_nat, ofInt_nat, BitVec.toNat_and, BitVec.toNat_ofNat, BitVec.toNat_ofNat, Nat.mod_eq_of_lt (by omega), Nat.mod_eq_of_lt (by omega), wrap_u64]
  have : a &&& b ≤ a := Nat.and_le_left
  omega
/-- One stage of the parallel count: pairs of fields of s bits are added. -/
def stage (m s x : Nat) : Nat := ((x / s) &&& m) + (x &&& m)
def stages (x : Nat) : Nat :=
  let y := stage 3689348814741910323 4 (stage 6148914691236517205 2 x)
  (y / 16 + y) &&& 1085102592571150095
theorem onesCount_stages (x : Nat) (hx : x < 65536) : bits_OnesCount64.f x = some (Go.bits .and .i64 (wrap64 (IntKind.u64.wrap ((IntKind.u64.wrap ((IntKind.u64.wrap ((stages x : Int) + ((stages x : Nat) : Int) / 256)) + (IntKind.u64.wrap ((stages x : Int) + ((stages x : Nat) : Int) / 256)) / 65536)) + (IntKind.u64.wrap ((IntKind.u64.wrap ((stages x : Int) + ((stages x : Nat) : Int) / 256)) + (IntKind.u64.wrap ((stages x : Int) + ((stages x : Nat) : Int) / 256)) / 65536)) / 4294967296))) 127) := by
  have e1 : IntKind.u64.wrap ((Go.bits .and .u64 ((x : Int) / 2) 6148914691236517205) + (Go.bits .and .u64 (x : Int) 6148914691236517205)) = ((stage 6148914691236517205 2 x : Nat) : Int) := by
    have h1 : ((x : Int) / 2) = ((x / 2 : Nat) : Int) := by omega
    have h2 : (6148914691236517205 : Int) = ((6148914691236517205 : Nat) : Int) := rfl
    rw [h1, h2, bitsU_and _ _ (by omega) (by omega), bitsU_and _ _ (by omega) (by omega), wrap_u64]
    have k1 : (x / 2) &&& 6148914691236517205 ≤ x / 2 := Nat.and_le_left
    have k2 : x &&& 6148914691236517205 ≤ x := Nat.and_le_left
    unfold stage; omega
  have b1 : stage 6148914691236517205 2 x < 131072 := by
    have k1 : (x / 2) &&& 6148914691236517205 ≤ x / 2 := Nat.and_le_left
    have k2 : x &&& 6148914691236517205 ≤ x := Nat.and_le_left
    unfold stage; omega
  have e2 : IntKind.u64.wrap ((Go.bits .and .u64 (((stage 6148914691236517205 2 x : Nat) : Int) / 4) 3689348814741910323) + (Go.bits .and .u64 ((stage 6148914691236517205 2 x : Nat) : Int) 3689348814741910323)) = ((stage 3689348814741910323 4 (stage 6148914691236517205 2 x) : Nat) : Int) := by
    generalize stage 6148914691236517205 2 x = y at b1 ⊢
    have h1 : ((y : Int) / 4) = ((y / 4 : Nat) : Int) := by omega
    have h2 : (3689348814741910323 : Int) = ((3689348814741910323 : Nat) : Int) := rfl
    rw [h1, h2, bitsU_and _ _ (by omega) (by omega), bitsU_and _ _ (by omega) (by omega), wrap_u64]
    have k1 : (y / 4) &&& 3689348814741910323 ≤ y / 4 := Nat.and_le_left
    have k2 : y &&& 3689348814741910323 ≤ y := Nat.and_le_left
    unfold stage; omega
  have b2 : stage 3689348814741910323 4 (stage 6148914691236517205 2 x) < 262144 := by
    generalize stage 6148914691236517205 2 x = y at b1 ⊢
    have k1 : (y / 4) &&& 3689348814741910323 ≤ y / 4 := Nat.and_le_left
    have k2 : y &&& 3689348814741910323 ≤ y := Nat.and_le_left
    unfold stage; omega
  have e3 : Go.bits .and .u64 (IntKind.u64.wrap ((((stage 3689348814741910323 4 (stage 6148914691236517205 2 x) : Nat) : Int) / 16) + ((stage 3689348814741910323 4 (stage 6148914691236517205 2 x) : Nat) : Int))) 1085102592571150095 = ((stages x : Nat) : Int) := by
    unfold stages
    generalize stage 3689348814741910323 4 (stage 6148914691236517205 2 x) = y at b2 ⊢
    have h2 : (1085102592571150095 : Int) = ((1085102592571150095 : Nat) : Int) := rfl
    rw [wrap_u64, show ((y : Int) / 16 + y) % 18446744073709551616 = ((y / 16 + y : Nat) : Int) by omega, h2, bitsU_and _ _ (by omega) (by omega)]
  unfold bits_OnesCount64.f
  rw [e1, e2, e3]
/-- The ones among the lowest bits. -/
def popc : Nat → Nat → Nat
  | 0, _ => 0
  | k + 1, x => x % 2 + popc k (x / 2)
def all16 (p : Nat → Bool) : Nat → Bool
  | 0 => true
  | n + 1 => p n && all16 p n
theorem all16_of {p : Nat → Bool} : ∀ {n : Nat}, all16 p n = true → ∀ i, i < n → p i = true
  | 0, _, i, hi => by omega
  | n + 1, h, i, hi => by
    simp only [all16, Bool.and_eq_true] at h
    rcases Nat.lt_or_eq_of_le (Nat.lt_succ_iff.1 hi) with h1 | h1
    · exact all16_of h.2 i h1
    · subst h1; exact h.1
/-- What the three masked stages leave of a byte, and how two bytes lie side by side. -/
theorem stages_byte : all16 (fun l => Nat.beq (stages l) (popc 8 l)) 256 = true := by decide +kernel
theorem stages_split : all16 (fun h => all16 (fun l => Nat.beq (stages (256 * h + l)) (256 * popc 8 h + popc 8 l)) 256) 256 = true := by decide +kernel
theorem popc_le : ∀ (k x : Nat), popc k x ≤ k
  | 0, _ => Nat.le_refl 0
  | k + 1, x => by have := popc_le k (x / 2); unfold popc; omega
theorem popc_add : ∀ (j k x : Nat), popc (j + k) x = popc j x + popc k (x / 2 ^ j)
  | 0, k, x => by simp [popc]
  | j + 1, k, x => by
    rw [show j + 1 + k = (j + k) + 1 by omega]
    show x % 2 + popc (j + k) (x / 2) = x % 2 + popc j (x / 2) + popc k (x / 2 ^ (j + 1))
    rw [popc_add j k (x / 2), Nat.div_div_eq_div_mul, Nat.pow_succ, Nat.mul_comm (2 ^ j) 2, Nat.add_assoc]
theorem popc_mod : ∀ (k x y : Nat), popc k (2 ^ k * y + x) = popc k x
  | 0, _, _ => rfl
  | k + 1, x, y => by
    unfold popc
    have h : 2 ^ (k + 1) * y = 2 * (2 ^ k * y) := by rw [Nat.pow_succ, Nat.mul_comm (2 ^ k) 2, Nat.mul_assoc]
    rw [h, show (2 * (2 ^ k * y) + x) % 2 = x % 2 by omega, show (2 * (2 ^ k * y) + x) / 2 = 2 ^ k * y + x / 2 by omega, popc_mod k (x / 2) y]
theorem stages_word (x : Nat) (hx : x < 65536) : stages x = 256 * popc 8 (x / 256) + popc 8 (x % 256) := by
  have h1 := all16_of stages_split (x / 256) (by omega)
  have h2 := all16_of h1 (x % 256) (by omega)
  have h3 := Nat.eq_of_beq_eq_true h2
  rw [Nat.div_add_mod] at h3
  exact h3
theorem popc_word (x : Nat) : popc 16 x = popc 8 (x % 256) + popc 8 (x / 256) := by
  rw [show (16 : Nat) = 8 + 8 from rfl, popc_add 8 8 x]
  congr 1
  have := popc_mod 8 (x % 256) (x / 256)
  rw [show (2 : Nat) ^ 8 = 256 from rfl, Nat.div_add_mod] at this
  exact this
theorem onesCount64_eq (x : Nat) (hx : x < 65536) : bits_OnesCount64.f x = some ((popc 16 x : Nat) : Int) := by
  rw [onesCount_stages x hx, stages_word x hx, popc_word]
  have h1 := popc_le 8 (x / 256)
  have h2 := popc_le 8 (x % 256)
  generalize popc 8 (x / 256) = a at h1 ⊢
  generalize popc 8 (x % 256) = b at h2 ⊢
  have e1 : IntKind.u64.wrap (((256 * a + b : Nat) : Int) + ((256 * a + b : Nat) : Int) / 256) = ((256 * a + b + a : Nat) : Int) := by rw [wrap_u64]; omega
  have g2 : ∀ A : Nat, A < 65536 → IntKind.u64.wrap ((A : Int) + (A : Int) / 65536) = (A : Int) := fun A hA => by rw [wrap_u64]; omega
  have g3 : ∀ A : Nat, A < 65536 → IntKind.u64.wrap ((A : Int) + (A : Int) / 4294967296) = (A : Int) := fun A hA => by rw [wrap_u64]; omega
  have e2 := g2 (256 * a + b + a) (by omega)
  have e3 := g3 (256 * a + b + a) (by omega)
  rw [e1, e2, e3, wrap_id _ (by omega) (by omega), show (127 : Int) = ((127 : Nat) : Int) from rfl, bits_and _ _ (by omega) (by omega)]
  congr 2
  rw [show (127 : Nat) = 2 ^ 7 - 1 from rfl, Nat.and_two_pow_sub_one_eq_mod]
  omega

theorem onesCount_eq (x : Nat) (hx : x < 65536) : bits_OnesCount.f x = some ((popc 16 x : Nat) : Int) := by unfold bits_OnesCount.f; rw [onesCount64_eq x hx]; rfl

theorem impl_WaysOf_bad (a b : Int) (h : GoodK a b = false) : impl_WaysOf.f a b = some (0, false) := by
  unfold impl_WaysOf.f; rw [impl_GoodKnown_eq, h]; rfl
theorem impl_WaysOf_eq (a b : Nat) (h : GoodK a b = true) (hb : b < 65536) : impl_WaysOf.f a b = some (((2 ^ popc 16 b : Nat) : Int), true) := by
  unfold impl_WaysOf.f; rw [impl_GoodKnown_eq, h]
  have hu : IntKind.u64.wrap (b : Int) = (b : Int) := by rw [wrap_u64]; omega
  rw [hu, onesCount_eq b hb]
  have := popc_le 16 b
  simp only [Option.bind_some, if_true]
  rw [if_pos (by omega), shl_one _ (by omega)]

theorem spec_WaysOf_loop : ∀ (k x m : Nat), k ≤ 16 → x < 2 ^ k → m * 2 ^ k < 4611686018427387904 → Ev (fun q => spec_WaysOf.l0 q (m : Int) (x : Int)) (((m * 2 ^ popc k x : Nat) : Int), true)
  | 0, x, m, hk, hx, hm => by
    refine Ev.step (fun q => spec_WaysOf.l0.eq_2 ..) ?_
    have : x = 0 := by omega
    subst this
    refine Ev.neg (by omega) ?_
    simp only [popc, Nat.pow_zero, Nat.mul_one]; exact Ev.now _
  | k + 1, x, m, hk, hx, hm => by
    have hk2 : 2 ^ (k + 1) ≤ 2 ^ 16 := Nat.pow_le_pow_right (by decide) hk
    have h2 : 2 ^ (k + 1) = 2 * 2 ^ k := by rw [Nat.pow_succ, Nat.mul_comm]
    by_cases h0 : x = 0
    · subst h0
      refine Ev.step (fun q => spec_WaysOf.l0.eq_2 ..) (Ev.neg (by omega) ?_)
      have hz : ∀ k, popc k 0 = 0 := by intro k; induction k with
        | zero => rfl
        | succ k ih => unfold popc; rw [Nat.zero_div, ih]
      rw [hz]; simp only [Nat.pow_zero, Nat.mul_one]; exact Ev.now _
    · have hmk : m * 2 ^ k < 4611686018427387904 := by
        have : m * 2 ^ k ≤ m * 2 ^ (k + 1) := Nat.mul_le_mul_left _ (by omega)
        omega
      have hm1 : m ≤ m * 2 ^ (k + 1) := Nat.le_mul_of_pos_right _ (Nat.two_pow_pos _)
      have ht : Int.tmod (x : Int) 2 = ((x % 2 : Nat) : Int) := by rw [Int.tmod_eq_emod_of_nonneg (by omega)]; omega
      have hd : wrap64 (Int.tdiv (x : Int) 2) = ((x / 2 : Nat) : Int) := by rw [Int.tdiv_eq_ediv_of_nonneg (by omega), wrap_id _ (by omega) (by omega)]; omega
      refine Ev.step (fun q => spec_WaysOf.l0.eq_2 ..) (Ev.pos (by omega) ?_)
      rw [ht, hd]
      unfold popc
      by_cases h1 : x % 2 = 1
      · refine Ev.pos (by omega) ?_
        have hmm : (m * 2) * 2 ^ k = m * 2 ^ (k + 1) := by rw [h2, Nat.mul_assoc]
        rw [wrap_id _ (by omega) (by omega), show ((m : Int) * 2) = ((m * 2 : Nat) : Int) by omega]
        refine Ev.at_ (spec_WaysOf_loop k (x / 2) (m * 2) (by omega) (by omega) (by omega)) ?_
        rw [h1, Nat.pow_add, Nat.pow_one, Nat.mul_assoc]
      · refine Ev.neg (by omega) ?_
        refine Ev.at_ (spec_WaysOf_loop k (x / 2) m (by omega) (by omega) hmk) ?_
        rw [show x % 2 = 0 by omega, Nat.zero_add]
theorem spec_WaysOf_bad (a b : Int) (h : GoodK a b = false) : Ev (fun k => spec_WaysOf.f k a b) (0, false) := by
  unfold spec_WaysOf.f; exact Ev.bindE (spec_GoodKnown_eq a b) (Ev.neg (by rw [h]; simp) (Ev.now _))
theorem spec_WaysOf_ev (a b : Nat) (h : GoodK a b = true) (hb : b < 65536) : Ev (fun k => spec_WaysOf.f k a b) (((2 ^ popc 16 b : Nat) : Int), true) := by
  unfold spec_WaysOf.f
  refine Ev.bindE (spec_GoodKnown_eq a b) (Ev.pos h ?_)
  have := spec_WaysOf_loop 16 b 1 (by omega) (by omega) (by decide)
  rw [Nat.one_mul] at this
  exact this

theorem and_pow (m j : Nat) : m &&& 2 ^ j = if m.testBit j = true then 2 ^ j else 0 := by
  apply Nat.eq_of_testBit_eq
  intro i
  rw [Nat.testBit_and]
  by_cases h : i = j
  · subst h
    by_cases hb : m.testBit i = true
    · rw [if_pos hb, hb, Nat.testBit_two_pow_self]; rfl
    · rw [if_neg hb]; simp only [Bool.not_eq_true] at hb; rw [hb, Nat.zero_testBit]; rfl
  · rw [Nat.testBit_two_pow_of_ne (by omega), Bool.and_false]
    split
    · rw [Nat.testBit_two_pow_of_ne (by omega)]
    · rw [Nat.zero_testBit]
theorem add_orp {a p : Nat} (ha : a < 65536) (hp : p ≤ 32768) (hz : a &&& p = 0) : a + p = a ||| p := by
  have := BitVec.add_eq_or_of_and_eq_zero (BitVec.ofNat 64 a) (BitVec.ofNat 64 p) (by
    apply BitVec.eq_of_toNat_eq
    rw [BitVec.toNat_and, BitVec.toNat_ofNat, BitVec.toNat_ofNat, Nat.mod_eq_of_lt (by omega), Nat.mod_eq_of_lt (by omega), hz]; rfl)
  have := congrArg BitVec.toNat this
  rw [BitVec.toNat_add, BitVec.toNat_or, BitVec.toNat_ofNat, BitVec.toNat_ofNat, Nat.mod_eq_of_lt (show a < 2 ^ 64 by omega), Nat.mod_eq_of_lt (show p < 2 ^ 64 by omega), Nat.mod_eq_of_lt (by omega)] at this
  exact this
theorem pow15 {j : Nat} (hj : j < 16) : 2 ^ j ≤ 32768 := Nat.pow_le_pow_right (n := 2) (show 2 > 0 by decide) (show j ≤ 15 by omega)
theorem pow16 {j : Nat} (hj : j ≤ 16) : 2 ^ j ≤ 65536 := Nat.pow_le_pow_right (n := 2) (show 2 > 0 by decide) hj
theorem add_or {a j : Nat} (ha : a < 65536) (hj : j < 16) (h : a.testBit j = false) : a + 2 ^ j = a ||| 2 ^ j :=
  add_orp ha (pow15 hj) (by rw [and_pow, h]; simp)
theorem or_ltp {a p : Nat} (ha : a < 65536) (hp : p ≤ 32768) : a ||| p < 65536 := word_or ha (by omega)
/-- The bits of n laid to the places of a mask, from place j on. -/
def deposit (m : Nat) : Nat → Nat → Nat → Nat → Nat
  | 0, _, _, out => out
  | d + 1, j, n, out => if m.testBit j = true then deposit m d (j + 1) (n / 2) (out + n % 2 * 2 ^ j) else deposit m d (j + 1) n out

section
variable {v m n out p : Nat} {r : Int} {r2 : Int × Bool}
theorem na_skipS (hm : m < 65536) (hp : 0 < p) (hp2 : p ≤ 32768) (hz : m &&& p = 0) (h : Ev (fun q => spec_l10At.l0 q (n : Int) (out : Int) ((p * 2 : Nat) : Int) (v : Int) (m : Int)) r) : Ev (fun q => spec_l10At.l0 q (n : Int) (out : Int) ((p : Nat) : Int) (v : Int) (m : Int)) r := by
  have ha : Go.bits .and .i64 (m : Int) ((p : Nat) : Int) = ((m &&& p : Nat) : Int) := bits_and _ _ (by omega) (by omega)
  have hw : wrap64 (((p : Nat) : Int) * 2) = ((p * 2 : Nat) : Int) := by rw [wrap_id _ (by omega) (by omega)]; omega
  refine Ev.step (fun q => spec_l10At.l0.eq_2 ..) (Ev.pos (by omega) <| Ev.pos (by rw [ha, hz]; rfl) ?_)
  rw [hw]; exact h
theorem na_skipI (hm : m < 65536) (hp : 0 < p) (hp2 : p ≤ 32768) (hz : m &&& p = 0) (h : Ev (fun q => impl_NumberAt.l0 q (n : Int) (out : Int) ((p * 2 : Nat) : Int) (v : Int) (m : Int)) r2) : Ev (fun q => impl_NumberAt.l0 q (n : Int) (out : Int) ((p : Nat) : Int) (v : Int) (m : Int)) r2 := by
  have ha : Go.bits .and .i64 (m : Int) ((p : Nat) : Int) = ((m &&& p : Nat) : Int) := bits_and _ _ (by omega) (by omega)
  have hw : wrap64 (((p : Nat) : Int) * 2) = ((p * 2 : Nat) : Int) := by rw [wrap_id _ (by omega) (by omega)]; omega
  refine Ev.step (fun q => impl_NumberAt.l0.eq_2 ..) (Ev.pos (by omega) <| Ev.pos (by rw [ha, hz]; rfl) ?_)
  rw [hw]; exact h
theorem na_takeS (hm : m < 65536) (hp : 0 < p) (hp2 : p ≤ 32768) (hz : m &&& p = p) (ho : out < 65536) (hn : n < 4294967296) (hor : out + p = out ||| p)
    (h : Ev (fun q => spec_l10At.l0 q ((n / 2 : Nat) : Int) ((out + n % 2 * p : Nat) : Int) ((p * 2 : Nat) : Int) (v : Int) (m : Int)) r) : Ev (fun q => spec_l10At.l0 q (n : Int) (out : Int) ((p : Nat) : Int) (v : Int) (m : Int)) r := by
  have ha : Go.bits .and .i64 (m : Int) ((p : Nat) : Int) = ((m &&& p : Nat) : Int) := bits_and _ _ (by omega) (by omega)
  have hw : wrap64 (((p : Nat) : Int) * 2) = ((p * 2 : Nat) : Int) := by rw [wrap_id _ (by omega) (by omega)]; omega
  have ht : Int.tmod (n : Int) 2 = ((n % 2 : Nat) : Int) := by rw [Int.tmod_eq_emod_of_nonneg (by omega)]; omega
  have hd : wrap64 (Int.tdiv (n : Int) 2) = ((n / 2 : Nat) : Int) := by rw [Int.tdiv_eq_ediv_of_nonneg (by omega), wrap_id _ (by omega) (by omega)]; omega
  refine Ev.step (fun q => spec_l10At.l0.eq_2 ..) (Ev.pos (by omega) <| Ev.neg (by rw [ha, hz]; omega) ?_)
  rcases Nat.mod_two_eq_zero_or_one n with h0 | h0
  · rw [h0, Nat.zero_mul, Nat.add_zero] at h
    refine Ev.neg (by rw [ht]; omega) ?_
    rw [hw, hd]; exact h
  · rw [h0, Nat.one_mul, hor] at h
    refine Ev.pos (by rw [ht]; omega) ?_
    rw [hw, hd, bits_or _ _ (by omega) (by omega)]; exact h
theorem na_takeI (hm : m < 65536) (hp : 0 < p) (hp2 : p ≤ 32768) (hz : m &&& p = p) (ho : out < 65536) (hn : n < 4294967296)
    (h : Ev (fun q => impl_NumberAt.l0 q ((n / 2 : Nat) : Int) ((out + n % 2 * p : Nat) : Int) ((p * 2 : Nat) : Int) (v : Int) (m : Int)) r2) : Ev (fun q => impl_NumberAt.l0 q (n : Int) (out : Int) ((p : Nat) : Int) (v : Int) (m : Int)) r2 := by
  have ha : Go.bits .and .i64 (m : Int) ((p : Nat) : Int) = ((m &&& p : Nat) : Int) := bits_and _ _ (by omega) (by omega)
  have hw : wrap64 (((p : Nat) : Int) * 2) = ((p * 2 : Nat) : Int) := by rw [wrap_id _ (by omega) (by omega)]; omega
  have ht : Int.tmod (n : Int) 2 = ((n % 2 : Nat) : Int) := by rw [Int.tmod_eq_emod_of_nonneg (by omega)]; omega
  have hd : wrap64 (Int.tdiv (n : Int) 2) = ((n / 2 : Nat) : Int) := by rw [Int.tdiv_eq_ediv_of_nonneg (by omega), wrap_id _ (by omega) (by omega)]; omega
  have hs : wrap64 ((out : Int) + wrap64 (((n % 2 : Nat) : Int) * ((p : Nat) : Int))) = ((out + n % 2 * p : Nat) : Int) := by
    rcases Nat.mod_two_eq_zero_or_one n with h0 | h0
    · rw [h0, Nat.zero_mul, show ((0 : Nat) : Int) * (p : Int) = 0 by simp]; unfold wrap64; omega
    · rw [h0, Nat.one_mul, show ((1 : Nat) : Int) * (p : Int) = (p : Int) by simp, wrap_id (p : Int) (by omega) (by omega), wrap_id _ (by omega) (by omega)]; omega
  refine Ev.step (fun q => impl_NumberAt.l0.eq_2 ..) (Ev.pos (by omega) <| Ev.neg (by rw [ha, hz]; omega) ?_)
  rw [hw, hd, ht, hs]; exact h
end
theorem numberAt_loop (v m : Nat) (hm : m < 65536) : ∀ (d j n out : Nat), j + d = 16 → out < 65536 → n < 4294967296 → (∀ i, j ≤ i → m.testBit i = true → out.testBit i = false) →
    Ev (fun q => spec_l10At.l0 q (n : Int) (out : Int) ((2 ^ j : Nat) : Int) (v : Int) (m : Int)) ((deposit m d j n out : Nat) : Int) ∧ Ev (fun q => impl_NumberAt.l0 q (n : Int) (out : Int) ((2 ^ j : Nat) : Int) (v : Int) (m : Int)) (((deposit m d j n out : Nat) : Int), true)
  | 0, j, n, out, hj, ho, hn, hi => by
    obtain rfl : j = 16 := by omega
    exact ⟨Ev.step (fun q => spec_l10At.l0.eq_2 ..) (Ev.neg (by decide) (Ev.now _)), Ev.step (fun q => impl_NumberAt.l0.eq_2 ..) (Ev.neg (by decide) (Ev.now _))⟩
  | d + 1, j, n, out, hj, ho, hn, hi => by
    have hpl : 2 ^ j ≤ 32768 := pow15 (by omega)
    have hpos := Nat.two_pow_pos j
    have hps : 2 ^ (j + 1) = 2 ^ j * 2 := Nat.pow_succ 2 j
    have hz := and_pow m j
    unfold deposit
    by_cases hb : m.testBit j = true
    · rw [if_pos hb] at hz ⊢
      have hob := hi j (Nat.le_refl _) hb
      have hor := add_or ho (by omega) hob
      have hlt : out ||| 2 ^ j < 65536 := or_ltp ho hpl
      have hn2 : n / 2 < 4294967296 := by omega
      have hi1 : ∀ i, j + 1 ≤ i → m.testBit i = true → (out + n % 2 * 2 ^ j).testBit i = false := by
        intro i h h'
        rcases Nat.mod_two_eq_zero_or_one n with h0 | h0
        · rw [h0, Nat.zero_mul, Nat.add_zero]; exact hi i (by omega) h'
        · rw [h0, Nat.one_mul, hor, Nat.testBit_or, hi i (by omega) h', Nat.testBit_two_pow_of_ne (by omega)]; rfl
      have ho1 : out + n % 2 * 2 ^ j < 65536 := by
        rcases Nat.mod_two_eq_zero_or_one n with h0 | h0
        · rw [h0, Nat.zero_mul, Nat.add_zero]; exact ho
        · rw [h0, Nat.one_mul, hor]; exact hlt
      have hrec := numberAt_loop v m hm d (j + 1) (n / 2) (out + n % 2 * 2 ^ j) (by omega) ho1 hn2 hi1
      generalize deposit m d (j + 1) (n / 2) (out + n % 2 * 2 ^ j) = D at hrec ⊢
      rw [hps] at hrec
      exact ⟨na_takeS hm hpos hpl hz ho hn hor hrec.1, na_takeI hm hpos hpl hz ho hn hrec.2⟩
    · rw [if_neg hb] at hz ⊢
      have hrec := numberAt_loop v m hm d (j + 1) n out (by omega) ho hn (fun i h => hi i (by omega))
      rw [hps] at hrec
      exact ⟨na_skipS hm hpos hpl hz hrec.1, na_skipI hm hpos hpl hz hrec.2⟩
/-- The n-th word of a known. -/
def numM (v m n : Nat) : Nat := deposit m 16 0 n v

theorem numberAt_bad (a b n : Int) (h : GoodK a b = false) : Ev (fun k => spec_NumberAt.f k a b n) (0, false) ∧ Ev (fun k => impl_NumberAt.f k a b n) (0, false) := by
  constructor
  · unfold spec_NumberAt.f; exact Ev.bind (spec_WaysOf_bad a b h) (Ev.neg (by simp) (Ev.now _))
  · unfold impl_NumberAt.f
    refine Ev.bindE (impl_WaysOf_bad a b h) (Ev.neg (by simp) ?_)
    exact Ev.step (fun k => impl_NumberAt.j0.eq_2 ..) (Ev.pos rfl (Ev.now _))
theorem numberAt_out (a b : Nat) (n : Int) (h : GoodK a b = true) (hb : b < 65536) (hn : ¬ (0 ≤ n ∧ n < ((2 ^ popc 16 b : Nat) : Int))) : Ev (fun k => spec_NumberAt.f k a b n) (0, false) ∧ Ev (fun k => impl_NumberAt.f k a b n) (0, false) := by
  have hp2 := pow16 (popc_le 16 b)
  have hp3 := Nat.two_pow_pos (popc 16 b)
  have e1 := spec_WaysOf_ev a b h hb
  have e2 := impl_WaysOf_eq a b h hb
  generalize 2 ^ popc 16 b = P at hn hp2 hp3 e1 e2
  have hf : In n 0 ((P : Int) - 1) = false := by rw [In_false]; omega
  constructor
  · unfold spec_NumberAt.f
    refine Ev.bind e1 (Ev.pos rfl ?_)
    rw [wrap_id _ (by omega) (by omega)]
    exact Ev.bindE (spec_l1In_eq ..) (Ev.neg (by rw [hf]; simp) (Ev.now _))
  · unfold impl_NumberAt.f
    refine Ev.bindE e2 (Ev.pos rfl ?_)
    rw [wrap_id _ (by omega) (by omega)]
    refine Ev.bindE (impl_in_eq ..) ?_
    rw [hf]
    exact Ev.step (fun k => impl_NumberAt.j0.eq_2 ..) (Ev.pos rfl (Ev.now _))
theorem numberAt_in (a b n : Nat) (h : GoodK a b = true) (hb : b < 65536) (ha : a < 65536) (hab : a &&& b = 0) (hn : n < 2 ^ popc 16 b) : Ev (fun k => spec_NumberAt.f k a b (n : Int)) (((numM a b n : Nat) : Int), true) ∧ Ev (fun k => impl_NumberAt.f k a b (n : Int)) (((numM a b n : Nat) : Int), true) := by
  have hp2 := pow16 (popc_le 16 b)
  have e1 := spec_WaysOf_ev a b h hb
  have e2 := impl_WaysOf_eq a b h hb
  generalize 2 ^ popc 16 b = P at hn hp2 e1 e2
  have hf : In (n : Int) 0 ((P : Int) - 1) = true := by rw [In_true]; omega
  obtain ⟨h1, h2⟩ := numberAt_loop a b hb 16 0 n a (by omega) ha (by omega) (fun i _ hi => by have := and_zero_bit hab i; rw [hi] at this; simpa using this)
  constructor
  · unfold spec_NumberAt.f
    refine Ev.bind e1 (Ev.pos rfl ?_)
    rw [wrap_id _ (by omega) (by omega)]
    refine Ev.bindE (spec_l1In_eq ..) (Ev.pos hf (Ev.bind ?_ (Ev.now _)))
    unfold spec_l10At.f
    exact h1
  · unfold impl_NumberAt.f
    refine Ev.bindE e2 (Ev.pos rfl ?_)
    rw [wrap_id _ (by omega) (by omega)]
    refine Ev.bindE (impl_in_eq ..) ?_
    rw [hf]
    exact Ev.step (fun k => impl_NumberAt.j0.eq_2 ..) (Ev.neg (by simp) h2)

theorem FnExactNumberAt : laws_FnExactNumberAt.Pure := by
  intro a b n _ _ _
  refine Ev.rounds ?_
  obtain ⟨r, h1, h2⟩ : ∃ r, Ev (fun k => spec_NumberAt.f k a b n) r ∧ Ev (fun k => impl_NumberAt.f k a b n) r := by
    cases h : GoodK a b with
    | false => exact ⟨_, numberAt_bad a b n h⟩
    | true =>
      obtain ⟨a, b, rfl, rfl, ha, hb, hab⟩ := GoodK_nat h
      by_cases hn : 0 ≤ n ∧ n < ((2 ^ popc 16 b : Nat) : Int)
      · obtain ⟨m, rfl⟩ := Int.eq_ofNat_of_zero_le hn.1
        exact ⟨_, numberAt_in a b m h hb ha hab (by omega)⟩
      · exact ⟨_, numberAt_out a b n h hb hn⟩
  unfold laws_FnExactNumberAt.f
  exact Ev.bindE rfl <| Ev.bind h1 <| Ev.bindE rfl <| Ev.bind h2 <| Ev.pos rfl <| Ev.neg (by simp) (Ev.now _)

end Go.Proofs.Ytggddmpomdpdjaa.Pure
