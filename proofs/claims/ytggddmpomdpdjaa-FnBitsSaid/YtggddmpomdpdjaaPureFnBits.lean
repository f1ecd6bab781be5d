/- Proved here: the pure statement of the law FnBits: what the printed functions compute answers true. Conditions: the statement's own bounds. -/
import Derived.Test.YtggddmpomdpdjaaPFBx2
import Derived.Test.YtggddmpomdpdjaaPFBx3
import Derived.Test.YtggddmpomdpdjaaPFBx4
import Derived.Test.YtggddmpomdpdjaaPFBx5
import Derived.Test.YtggddmpomdpdjaaPFBx6
import Derived.Test.YtggddmpomdpdjaaPFBx7
namespace Go.Proofs.Ytggddmpomdpdjaa.Pure
open Go Go.RowKit Go.Proofs.Ytggddmpomdpdjaa.PFB Go.Proofs.YtggddmpomdpdjaaW.PrintWords Go.Proofs.YtggddmpomdpdjaaW.PrintLast Go.Proofs.YtggddmpomdpdjaaW.PrintMore
set_option linter.unusedVariables false
set_option linter.unusedSimpArgs false

/-- A number lies between two. -/
def In (a lo hi : Int) : Bool := decide (lo ≤ a) && decide (a ≤ hi)
theorem In_true {a lo hi : Int} : In a lo hi = true ↔ lo ≤ a ∧ a ≤ hi := by simp [In]
theorem In_false {a lo hi : Int} : In a lo hi = false ↔ ¬ (lo ≤ a ∧ a ≤ hi) := by rw [← In_true]; simp
theorem In_ite {a lo hi : Int} : (if a ≥ lo then some (decide (a ≤ hi)) else some false) = some (In a lo hi) := by
  unfold In; by_cases h : lo ≤ a <;> simp [h]
theorem ite_some {α : Type} {c : Prop} [Decidable c] (a b : α) : (if c then some a else some b) = some (if c then a else b) := by split <;> rfl
theorem ne_self_bool (b : Bool) : ((b != b) = true) = False := by simp

theorem spec_l1In_eq (a b c : Int) : spec_l1In.f a b c = some (In a b c) := by unfold spec_l1In.f; exact In_ite

theorem impl_in_eq (a b c : Int) : impl_in.f a b c = some (In a b c) := by unfold impl_in.f; exact In_ite

theorem spec_l1Word_eq (a : Int) : spec_l1Word.f a = some (In a 0 65535) := by unfold spec_l1Word.f; rw [spec_l1In_eq]; rfl

theorem impl_isWord_eq (a : Int) : impl_isWord.f a = some (In a 0 65535) := by unfold impl_isWord.f; rw [impl_in_eq]; rfl

/-- The bits of a number that another one has not. -/
def andn (a b : Nat) : Nat := a ^^^ (a &&& b)
theorem testBit_andn (a b i : Nat) : (andn a b).testBit i = (a.testBit i && !b.testBit i) := by
  unfold andn; rw [Nat.testBit_xor, Nat.testBit_and]; cases a.testBit i <;> cases b.testBit i <;> rfl
theorem andn_le (a b : Nat) : andn a b ≤ a := by
  have h : andn a b &&& a = andn a b := by
    apply Nat.eq_of_testBit_eq; intro i; rw [Nat.testBit_and, testBit_andn]; cases a.testBit i <;> cases b.testBit i <;> rfl
  rw [← h]; exact Nat.and_le_right
theorem wrap_i64_nat (n : Nat) (h : n < 9223372036854775808) : IntKind.i64.wrap (n : Int) = n := by
  rw [IntKind.wrap_i64]; omega
theorem ofInt_nat (n : Nat) : BitVec.ofInt 64 (n : Int) = BitVec.ofNat 64 n := BitVec.ofInt_natCast 64 n
theorem bits_and (a b : Nat) (ha : a < 9223372036854775808) (hb : b < 9223372036854775808) : Go.bits .and .i64 a b = ((a &&& b : Nat) : Int) := by
  show IntKind.i64.wrap (((BitVec.ofInt 64 (a : Int)) &&& (BitVec.ofInt 64 (b : Int))).toNat : Int) = _
  rw [ofInt_nat, ofInt_nat, BitVec.toNat_and, BitVec.toNat_ofNat, BitVec.toNat_ofNat, Nat.mod_eq_of_lt (by omega), Nat.mod_eq_of_lt (by omega)]
  exact wrap_i64_nat _ (Nat.lt_of_le_of_lt Nat.and_le_left ha)
theorem or_lt63 {a b : Nat} (ha : a < 9223372036854775808) (hb : b < 9223372036854775808) : a ||| b < 9223372036854775808 := Nat.or_lt_two_pow (n := 63) ha hb
theorem xor_lt63 {a b : Nat} (ha : a < 9223372036854775808) (hb : b < 9223372036854775808) : a ^^^ b < 9223372036854775808 := Nat.xor_lt_two_pow (n := 63) ha hb
theorem bits_or (a b : Nat) (ha : a < 9223372036854775808) (hb : b < 9223372036854775808) : Go.bits .or .i64 a b = ((a ||| b : Nat) : Int) := by
  show IntKind.i64.wrap (((BitVec.ofInt 64 (a : Int)) ||| (BitVec.ofInt 64 (b : Int))).toNat : Int) = _
  rw [ofInt_nat, ofInt_nat, BitVec.toNat_or, BitVec.toNat_ofNat, BitVec.toNat_ofNat, Nat.mod_eq_of_lt (by omega), Nat.mod_eq_of_lt (by omega)]
  exact wrap_i64_nat _ (or_lt63 ha hb)
theorem bits_xor (a b : Nat) (ha : a < 9223372036854775808) (hb : b < 9223372036854775808) : Go.bits .xor .i64 a b = ((a ^^^ b : Nat) : Int) := by
  show IntKind.i64.wrap (((BitVec.ofInt 64 (a : Int)) ^^^ (BitVec.ofInt 64 (b : Int))).toNat : Int) = _
  rw [ofInt_nat, ofInt_nat, BitVec.toNat_xor, BitVec.toNat_ofNat, BitVec.toNat_ofNat, Nat.mod_eq_of_lt (by omega), Nat.mod_eq_of_lt (by omega)]
  exact wrap_i64_nat _ (xor_lt63 ha hb)
theorem bits_andNot (a b : Nat) (ha : a < 9223372036854775808) (hb : b < 9223372036854775808) : Go.bits .andNot .i64 a b = ((andn a b : Nat) : Int) := by
  show IntKind.i64.wrap (((BitVec.ofInt 64 (a : Int)) &&& ~~~ (BitVec.ofInt 64 (b : Int))).toNat : Int) = _
  rw [ofInt_nat, ofInt_nat]
  have h : (BitVec.ofNat 64 a &&& ~~~ BitVec.ofNat 64 b).toNat = andn a b := by
    apply Nat.eq_of_testBit_eq; intro i
    rw [testBit_andn]
    by_cases hi : i < 64
    · rw [BitVec.testBit_toNat, BitVec.getLsbD_and, BitVec.getLsbD_not, BitVec.getLsbD_ofNat, BitVec.getLsbD_ofNat]
      simp [hi]
    · have h1 : a.testBit i = false := Nat.testBit_lt_two_pow (Nat.lt_of_lt_of_le ha (by have := Nat.pow_le_pow_right (show 0 < 2 by decide) (show 63 ≤ i by omega); omega))
      rw [h1, BitVec.testBit_toNat, BitVec.getLsbD_of_ge _ _ (by omega)]; rfl
  rw [h]
  exact wrap_i64_nat _ (Nat.lt_of_le_of_lt (andn_le a b) ha)
theorem and_zero_bit {a b : Nat} (h : a &&& b = 0) (i : Nat) : (a.testBit i && b.testBit i) = false := by rw [← Nat.testBit_and, h]; simp
theorem nat_of {x hi : Int} (h : In x 0 hi = true) : ∃ n : Nat, x = (n : Int) ∧ (n : Int) ≤ hi := by
  have h := In_true.1 h
  exact ⟨x.toNat, by omega, by omega⟩

theorem word_or {a b : Nat} (ha : a < 65536) (hb : b < 65536) : a ||| b < 65536 := Nat.or_lt_two_pow (n := 16) ha hb
theorem word_xor {a b : Nat} (ha : a < 65536) (hb : b < 65536) : a ^^^ b < 65536 := Nat.xor_lt_two_pow (n := 16) ha hb
theorem word_and {a b : Nat} (ha : a < 65536) : a &&& b < 65536 := Nat.lt_of_le_of_lt Nat.and_le_left ha
theorem word_andn {a b : Nat} (ha : a < 65536) : andn a b < 65536 := Nat.lt_of_le_of_lt (andn_le a b) ha

theorem Ev.pos {α : Type} {c : Prop} [Decidable c] {A B : Nat → Option α} {r : α} (h : c) (e : Ev A r) : Ev (fun k => if c then A k else B k) r := Ev.congr (fun _ => if_pos h) e
theorem Ev.neg {α : Type} {c : Prop} [Decidable c] {A B : Nat → Option α} {r : α} (h : ¬ c) (e : Ev B r) : Ev (fun k => if c then A k else B k) r := Ev.congr (fun _ => if_neg h) e
theorem Ev.bindE {α β : Type} {g : Option α} {f : Nat → α → Option β} {a : α} {r : β} (h : g = some a) (k : Ev (fun n => f n a) r) : Ev (fun n => g.bind (f n)) r := by subst h; exact k
theorem Ev.at_ {α : Type} {g : Nat → Option α} {r r' : α} (h : Ev g r) (e : r = r') : Ev g r' := e ▸ h
theorem Ev.one {α : Type} {g : Nat → Option α} {r r' : α} (h : Ev g r) (h' : Ev g r') : r = r' := by
  obtain ⟨K, h⟩ := h; obtain ⟨K', h'⟩ := h'
  have a := h (max K K') (by omega); have b := h' (max K K') (by omega)
  rw [a] at b; exact Option.some.inj b
/-- Two texts come to one answer, of which P holds. -/
def Both {α : Type} (P : α → Prop) (g f : Nat → Option α) : Prop := ∃ r, Ev g r ∧ Ev f r ∧ P r
theorem Both.now {α : Type} {P : α → Prop} (r : α) (h : P r) : Both P (fun _ => some r) (fun _ => some r) := ⟨r, Ev.now r, Ev.now r, h⟩
theorem Both.now2 {α : Type} {P : α → Prop} (r r' : α) (e : r = r') (h : P r) : Both P (fun _ => some r) (fun _ => some r') := ⟨r, Ev.now r, e ▸ Ev.now r, h⟩
theorem Both.mono {α : Type} {P Q : α → Prop} {g f : Nat → Option α} (h : Both P g f) (hq : ∀ r, P r → Q r) : Both Q g f := by obtain ⟨r, a, b, c⟩ := h; exact ⟨r, a, b, hq r c⟩
theorem Both.congrL {α : Type} {P : α → Prop} {g g' f : Nat → Option α} (e : ∀ k, g k = g' k) (h : Both P g' f) : Both P g f := by obtain ⟨r, a, b, c⟩ := h; exact ⟨r, a.congr e, b, c⟩
theorem Both.congrR {α : Type} {P : α → Prop} {g f f' : Nat → Option α} (e : ∀ k, f k = f' k) (h : Both P g f') : Both P g f := by obtain ⟨r, a, b, c⟩ := h; exact ⟨r, a, b.congr e, c⟩
theorem Both.posL {α : Type} {P : α → Prop} {c : Prop} [Decidable c] {A B f : Nat → Option α} (h : c) (e : Both P A f) : Both P (fun k => if c then A k else B k) f := e.congrL (fun _ => if_pos h)
theorem Both.negL {α : Type} {P : α → Prop} {c : Prop} [Decidable c] {A B f : Nat → Option α} (h : ¬ c) (e : Both P B f) : Both P (fun k => if c then A k else B k) f := e.congrL (fun _ => if_neg h)
theorem Both.posR {α : Type} {P : α → Prop} {c : Prop} [Decidable c] {A B f : Nat → Option α} (h : c) (e : Both P f A) : Both P f (fun k => if c then A k else B k) := e.congrR (fun _ => if_pos h)
theorem Both.negR {α : Type} {P : α → Prop} {c : Prop} [Decidable c] {A B f : Nat → Option α} (h : ¬ c) (e : Both P f B) : Both P f (fun k => if c then A k else B k) := e.congrR (fun _ => if_neg h)
theorem Both.ite {α : Type} {P : α → Prop} {c : Prop} [Decidable c] {A B A' B' : Nat → Option α} (h1 : c → Both P A A') (h2 : ¬ c → Both P B B') : Both P (fun k => if c then A k else B k) (fun k => if c then A' k else B' k) := by
  by_cases h : c
  · exact ((h1 h).posL h).posR h
  · exact ((h2 h).negL h).negR h
theorem Both.stepL {α : Type} {P : α → Prop} {g g' f : Nat → Option α} (e : ∀ k, g (k + 1) = g' k) (h : Both P g' f) : Both P g f := by obtain ⟨r, a, b, c⟩ := h; exact ⟨r, a.step e, b, c⟩
theorem Both.stepR {α : Type} {P : α → Prop} {g f f' : Nat → Option α} (e : ∀ k, f (k + 1) = f' k) (h : Both P g f') : Both P g f := by obtain ⟨r, a, b, c⟩ := h; exact ⟨r, a, b.step e, c⟩
theorem Both.bindL {α β : Type} {P : β → Prop} {g : Nat → Option α} {F : Nat → α → Option β} {f : Nat → Option β} {a : α} (h : Ev g a) (e : Both P (fun k => F k a) f) : Both P (fun k => (g k).bind (F k)) f := by obtain ⟨r, x, y, c⟩ := e; exact ⟨r, Ev.bind h x, y, c⟩
theorem Both.bindR {α β : Type} {P : β → Prop} {g : Nat → Option α} {F : Nat → α → Option β} {f : Nat → Option β} {a : α} (h : Ev g a) (e : Both P f (fun k => F k a)) : Both P f (fun k => (g k).bind (F k)) := by obtain ⟨r, x, y, c⟩ := e; exact ⟨r, x, Ev.bind h y, c⟩
theorem Both.bindEL {α β : Type} {P : β → Prop} {g : Option α} {F : Nat → α → Option β} {f : Nat → Option β} {a : α} (h : g = some a) (e : Both P (fun k => F k a) f) : Both P (fun k => g.bind (F k)) f := by subst h; exact e
theorem Both.bindER {α β : Type} {P : β → Prop} {g : Option α} {F : Nat → α → Option β} {f : Nat → Option β} {a : α} (h : g = some a) (e : Both P f (fun k => F k a)) : Both P f (fun k => g.bind (F k)) := by subst h; exact e
theorem Both.bind2 {α β : Type} {P : β → Prop} {Q : α → Prop} {g g' : Nat → Option α} {F F' : Nat → α → Option β} (h : Both Q g g') (e : ∀ a, Q a → Both P (fun k => F k a) (fun k => F' k a)) : Both P (fun k => (g k).bind (F k)) (fun k => (g' k).bind (F' k)) := by
  obtain ⟨a, x, y, c⟩ := h
  exact ((e a c).bindL x).bindR y
theorem Both.self {α : Type} {P : α → Prop} {g : Nat → Option α} {r : α} (h : Ev g r) (p : P r) : Both P g g := ⟨r, h, h, p⟩
theorem w1 (i : Nat) (h : i < 4611686018427387904) : wrap64 ((i : Int) + 1) = ((i + 1 : Nat) : Int) := by unfold wrap64; omega
theorem wrap_id (x : Int) (h0 : -9223372036854775808 ≤ x) (h1 : x ≤ 9223372036854775807) : wrap64 x = x := by unfold wrap64; omega
theorem rd_nat (l : List Int) (i : Nat) (h : i < l.length) : rd l (i : Int) = l[i] := by unfold rd; simp [List.getD, h]
theorem rdOf_nat {α : Type} (d : α) (l : List α) (i : Nat) (h : i < l.length) : rdOf d l (i : Int) = l[i] := by unfold rdOf; simp [List.getD, h]
theorem set_take {α : Type} (l : List α) (i : Nat) (v : α) (h : i < l.length) : (l.set i v).take (i + 1) = l.take i ++ [v] := by
  rw [List.take_succ_eq_append_getElem (by simpa using h), List.take_set_of_le (Nat.le_refl i)]; simp

theorem u64_nat (i : Nat) (h : i < 9223372036854775808) : IntKind.u64.wrap (i : Int) = (i : Int) := by
  have : IntKind.u64.wrap (i : Int) = (i : Int) % 18446744073709551616 := by simp [IntKind.wrap, IntKind.bits, IntKind.signed]
  rw [this]; omega
theorem shl_one (n : Nat) (h : n ≤ 60) : shl .i64 1 (n : Int) = ((2 ^ n : Nat) : Int) := by
  have hb : IntKind.i64.bits = 64 := rfl
  unfold shl
  rw [Int.toNat_natCast, hb, Nat.min_eq_left (by omega), Int.one_mul]
  have h1 : 2 ^ n ≤ 2 ^ 60 := Nat.pow_le_pow_right (by decide) h
  have h2 : ((2 : Int) ^ n) = ((2 ^ n : Nat) : Int) := by rw [Int.natCast_pow]; rfl
  rw [h2]; exact wrap_i64_nat _ (by omega)
/-- Bit i of a number, as the programs read it. -/
def bitM (x : Int) (i : Nat) : Bool := Go.bits .and .i64 (shr .i64 x (i : Int)) 1 == 1
def modelM (n : Nat) (x : Int) : List Bool := (List.range n).map (fun i => bitM x i)
theorem modelM_len (n : Nat) (x : Int) : (modelM n x).length = n := by simp [modelM]

def GoodK (v m : Int) : Bool := In v 0 65535 && In m 0 65535 && (Go.bits .and .i64 v m == 0)
def GoodS (lo hi : Int) : Bool := In lo 0 65535 && In hi 0 65535 && decide (lo ≤ hi)

theorem spec_GoodKnown_eq (a b : Int) : spec_GoodKnown.f a b = some (GoodK a b) := by
  unfold spec_GoodKnown.f GoodK; simp only [spec_l1Word_eq, Option.bind_some]
  cases In a 0 65535 <;> cases In b 0 65535 <;> simp

theorem impl_GoodKnown_eq (a b : Int) : impl_GoodKnown.f a b = some (GoodK a b) := by
  unfold impl_GoodKnown.f GoodK; simp only [impl_isWord_eq, Option.bind_some]
  cases In a 0 65535 <;> cases In b 0 65535 <;> simp

theorem impl_bothKnown_eq (a b c d : Int) : impl_bothKnown.f a b c d = some (GoodK a b && GoodK c d) := by
  unfold impl_bothKnown.f; simp only [impl_GoodKnown_eq, Option.bind_some]; cases GoodK a b <;> simp

theorem impl_MayBe_eq (a b n : Int) : impl_MayBe.f a b n = some (if GoodK a b && In n 0 65535 then (Go.bits .andNot .i64 n b == a, true) else (false, false)) := by
  unfold impl_MayBe.f impl_Known_matches.f; simp only [impl_GoodKnown_eq, impl_isWord_eq, Option.bind_some]
  cases GoodK a b <;> cases In n 0 65535 <;> simp

def JoinK (a b c d : Int) : Int × Int := (Go.bits .andNot .i64 a (Go.bits .or .i64 (Go.bits .or .i64 b d) (Go.bits .xor .i64 a c)), Go.bits .or .i64 (Go.bits .or .i64 b d) (Go.bits .xor .i64 a c))

theorem spec_l10Join_eq (a b c d : Int) : spec_l10Join.f a b c d = some (JoinK a b c d) := rfl

theorem impl_joinKnown_eq (a b c d : Int) : impl_joinKnown.f a b c d = some (JoinK a b c d) := rfl

theorem spec_JoinKnown_eq (a b c d : Int) : spec_JoinKnown.f a b c d = some (if GoodK a b && GoodK c d then ((JoinK a b c d).1, (JoinK a b c d).2, true) else (0, 0, false)) := by
  unfold spec_JoinKnown.f; simp only [spec_GoodKnown_eq, spec_l10Join_eq, Option.bind_some]; cases GoodK a b <;> cases GoodK c d <;> simp

theorem impl_JoinKnown_eq (a b c d : Int) : impl_JoinKnown.f a b c d = some (if GoodK a b && GoodK c d then ((JoinK a b c d).1, (JoinK a b c d).2, true) else (0, 0, false)) := by
  unfold impl_JoinKnown.f; simp only [impl_bothKnown_eq, impl_joinKnown_eq, Option.bind_some]; cases GoodK a b <;> cases GoodK c d <;> simp

def JoinS (a b c d : Int) : Int × Int := (mn a c, mx b d)

def MeetS (a b c d : Int) : Int × Int × Bool := if mx a c > mn b d then (0, 0, false) else (mx a c, mn b d, true)

def LessS (a b c d : Int) : Int × Int × Int × Int × Bool := if a ≥ d then (0, 0, 0, 0, false) else (a, mn b (wrap64 (d - 1)), mx c (wrap64 (a + 1)), d, true)

theorem GoodK_nat {v m : Int} (h : GoodK v m = true) : ∃ a b : Nat, v = a ∧ m = b ∧ a < 65536 ∧ b < 65536 ∧ a &&& b = 0 := by
  unfold GoodK at h
  simp only [Bool.and_eq_true, beq_iff_eq] at h
  obtain ⟨⟨h1, h2⟩, h3⟩ := h
  obtain ⟨a, rfl, ha⟩ := nat_of h1
  obtain ⟨b, rfl, hb⟩ := nat_of h2
  rw [bits_and a b (by omega) (by omega)] at h3
  exact ⟨a, b, rfl, rfl, by omega, by omega, by omega⟩

theorem meetK_eq {a b c d : Int} (h1 : GoodK a b = true) (h2 : GoodK c d = true) : impl_meetKnown.f a b c d = spec_l10Meet.f a b c d := by
  obtain ⟨a, b, rfl, rfl, ha, hb, hab⟩ := GoodK_nat h1
  obtain ⟨c, d, rfl, rfl, hc, hd, hcd⟩ := GoodK_nat h2
  have hx := word_xor ha hc
  have ho := word_or hb hd
  have hv := word_or ha hc
  have hm := word_and (b := d) hb
  have hn := word_andn (b := b) hx
  unfold impl_meetKnown.f spec_l10Meet.f impl_known.f
  simp only [Option.bind_some]
  rw [bits_xor a c (by omega) (by omega), bits_or b d (by omega) (by omega), bits_andNot (a ^^^ c) b (by omega) (by omega), bits_andNot _ d (by omega) (by omega), bits_andNot _ (b ||| d) (by omega) (by omega), bits_or a c (by omega) (by omega), bits_and b d (by omega) (by omega), bits_andNot _ (b &&& d) (by omega) (by omega)]
  have e1 : andn (andn (a ^^^ c) b) d = andn (a ^^^ c) (b ||| d) := by
    apply Nat.eq_of_testBit_eq; intro i
    simp only [testBit_andn, Nat.testBit_or, Nat.testBit_xor]
    cases a.testBit i <;> cases b.testBit i <;> cases c.testBit i <;> cases d.testBit i <;> rfl
  have e2 : andn (a ||| c) (b &&& d) = a ||| c := by
    apply Nat.eq_of_testBit_eq; intro i
    have k1 := and_zero_bit hab i
    have k2 := and_zero_bit hcd i
    simp only [testBit_andn, Nat.testBit_or, Nat.testBit_and]
    revert k1 k2
    cases a.testBit i <;> cases b.testBit i <;> cases c.testBit i <;> cases d.testBit i <;> simp
  rw [e1, e2]

theorem spec_MeetKnown_eq (a b c d : Int) : spec_MeetKnown.f a b c d = if GoodK a b && GoodK c d then (spec_l10Meet.f a b c d) else some (0, 0, false) := by
  unfold spec_MeetKnown.f; simp only [spec_GoodKnown_eq, Option.bind_some]; cases GoodK a b <;> cases GoodK c d <;> simp
  cases spec_l10Meet.f a b c d <;> rfl

theorem spec_l10Meet_some (a b c d : Int) : ∃ r, spec_l10Meet.f a b c d = some r := by unfold spec_l10Meet.f; split <;> exact ⟨_, rfl⟩

theorem impl_MeetKnown_eq (a b c d : Int) : impl_MeetKnown.f a b c d = if GoodK a b && GoodK c d then (spec_l10Meet.f a b c d) else some (0, 0, false) := by
  unfold impl_MeetKnown.f; simp only [impl_bothKnown_eq, Option.bind_some]
  cases h1 : GoodK a b <;> cases h2 : GoodK c d <;> simp
  rw [meetK_eq h1 h2]; cases spec_l10Meet.f a b c d <;> rfl

theorem wrap_u64 (n : Int) : IntKind.u64.wrap n = n % 18446744073709551616 := by simp [IntKind.wrap, IntKind.bits, IntKind.signed]
theorem bitsU_and (a b : Nat) (ha : a < 18446744073709551616) (hb : b < 18446744073709551616) : Go.bits .and .u64 a b = ((a &&& b : Nat) : Int) := by
  show IntKind.u64.wrap (((BitVec.ofInt 64 (a : Int)) &&& (BitVec.ofInt 64 (b : Int))).toNat : Int) = _
  rw [ofInt_nat, ofInt_nat, BitVec.toNat_and, BitVec.toNat_ofNat, BitVec.toNat_ofNat, Nat.mod_eq_of_lt (by omega), Nat.mod_eq_of_lt (by omega), wrap_u64]
  have : a &&& b ≤ a := Nat.and_le_left
  omega
/-- One stage of the parallel count: pairs of fields of s bits are added. -/
def stage (m s x : Nat) : Nat := ((x / s) &&& m) + (x &&& m)
def stages (x : Nat) : Nat :=
  let y := stage 3689348814741910323 4 (stage 6148914691236517205 2 x)
  (y / 16 + y) &&& 1085102592571150095
theorem onesCount_stages (x : Nat) (hx : x < 65536) : bits_OnesCount64.f x = some (Go.bits .and .i64 (wrap64 (IntKind.u64.wrap ((IntKind.u64.wrap ((IntKind.u64.wrap ((stages x : Int) + ((stages x : Nat) : Int) / 256)) + (IntKind.u64.wrap ((stages x : Int) + ((stages x : Nat) : Int) / 256)) / 65536)) + (IntKind.u64.wrap ((IntKind.u64.wrap ((stages x : Int) + ((stages x : Nat) : Int) / 256)) + (IntKind.u64.wrap ((stages x : Int) + ((stages x : Nat) : Int) / 256)) / 65536)) / 4294967296))) 127) := by
  have e1 : IntKind.u64.wrap ((Go.bits .and .u64 ((x : Int) / 2) 6148914691236517205) + (Go.bits .and .u64 (x : Int) 6148914691236517205)) = ((stage 6148914691236517205 2 x : Nat) : Int) := by
    have h1 : ((x : Int) / 2) = ((x / 2 : Nat) : Int) := by omega
    have h2 : (6148914691236517205 : Int) = ((6148914691236517205 : Nat) : Int) := rfl
    rw [h1, h2, bitsU_and _ _ (by omega) (by omega), bitsU_and _ _ (by omega) (by omega), wrap_u64]
    have k1 : (x / 2) &&& 6148914691236517205 ≤ x / 2 := Nat.and_le_left
    have k2 : x &&& 6148914691236517205 ≤ x := Nat.and_le_left
    unfold stage; omega
  have b1 : stage 6148914691236517205 2 x < 131072 := by
    have k1 : (x / 2) &&& 6148914691236517205 ≤ x / 2 := Nat.and_le_left
    have k2 : x &&& 6148914691236517205 ≤ x := Nat.and_le_left
    unfold stage; omega
  have e2 : IntKind.u64.wrap ((Go.bits .and .u64 (((stage 6148914691236517205 2 x : Nat) : Int) / 4) 3689348814741910323) + (Go.bits .and .u64 ((stage 6148914691236517205 2 x : Nat) : Int) 3689348814741910323)) = ((stage 3689348814741910323 4 (stage 6148914691236517205 2 x) : Nat) : Int) := by
    generalize stage 6148914691236517205 2 x = y at b1 ⊢
    have h1 : ((y : Int) / 4) = ((y / 4 : Nat) : Int) := by omega
    have h2 : (3689348814741910323 : Int) = ((3689348814741910323 : Nat) : Int) := rfl
    rw [h1, h2, bitsU_and _ _ (by omega) (by omega), bitsU_and _ _ (by omega) (by omega), wrap_u64]
    have k1 : (y / 4) &&& 3689348814741910323 ≤ y / 4 := Nat.and_le_left
    have k2 : y &&& 3689348814741910323 ≤ y := Nat.and_le_left
    unfold stage; omega
  have b2 : stage 3689348814741910323 4 (stage 6148914691236517205 2 x) < 262144 := by
    generalize stage 6148914691236517205 2 x = y at b1 ⊢
    have k1 : (y / 4) &&& 3689348814741910323 ≤ y / 4 := Nat.and_le_left
    have k2 : y &&& 3689348814741910323 ≤ y := Nat.and_le_left
    unfold stage; omega
  have e3 : Go.bits .and .u64 (IntKind.u64.wrap ((((stage 3689348814741910323 4 (stage 6148914691236517205 2 x) : Nat) : Int) / 16) + ((stage 3689348814741910323 4 (stage 6148914691236517205 2 x) : Nat) : Int))) 1085102592571150095 = ((stages x : Nat) : Int) := by
    unfold stages
    generalize stage 3689348814741910323 4 (stage 6148914691236517205 2 x) = y at b2 ⊢
    have h2 : (1085102592571150095 : Int) = ((1085102592571150095 : Nat) : Int) := rfl
    rw [wrap_u64, show ((y : Int) / 16 + y) % 18446744073709551616 = ((y / 16 + y : Nat) : Int) by omega, h2, bitsU_and _ _ (by omega) (by omega)]
  unfold bits_OnesCount64.f
  rw [e1, e2, e3]
/-- The ones among the lowest bits. -/
def popc : Nat → Nat → Nat
  | 0, _ => 0
  | k + 1, x => x % 2 + popc k (x / 2)
def all16 (p : Nat → Bool) : Nat → Bool
  | 0 => true
  | n + 1 => p n && all16 p n
theorem all16_of {p : Nat → Bool} : ∀ {n : Nat}, all16 p n = true → ∀ i, i < n → p i = true
  | 0, _, i, hi => by omega
  | n + 1, h, i, hi => by
    simp only [all16, Bool.and_eq_true] at h
    rcases Nat.lt_or_eq_of_le (Nat.lt_succ_iff.1 hi) with h1 | h1
    · exact all16_of h.2 i h1
    · subst h1; exact h.1
/-- What the three masked stages leave of a byte, and how two bytes lie side by side. -/
theorem stages_byte : all16 (fun l => Nat.beq (stages l) (popc 8 l)) 256 = true := by decide +kernel
theorem stages_split : all16 (fun h => all16 (fun l => Nat.beq (stages (256 * h + l)) (256 * popc 8 h + popc 8 l)) 256) 256 = true := by decide +kernel
theorem popc_le : ∀ (k x : Nat), popc k x ≤ k
  | 0, _ => Nat.le_refl 0
  | k + 1, x => by have := popc_le k (x / 2); unfold popc; omega
theorem popc_add : ∀ (j k x : Nat), popc (j + k) x = popc j x + popc k (x / 2 ^ j)
  | 0, k, x => by simp [popc]
  | j + 1, k, x => by
    rw [show j + 1 + k = (j + k) + 1 by omega]
    show x % 2 + popc (j + k) (x / 2) = x % 2 + popc j (x / 2) + popc k (x / 2 ^ (j + 1))
    rw [popc_add j k (x / 2), Nat.div_div_eq_div_mul, Nat.pow_succ, Nat.mul_comm (2 ^ j) 2, Nat.add_assoc]
theorem popc_mod : ∀ (k x y : Nat), popc k (2 ^ k * y + x) = popc k x
  | 0, _, _ => rfl
  | k + 1, x, y => by
    unfold popc
    have h : 2 ^ (k + 1) * y = 2 * (2 ^ k * y) := by rw [Nat.pow_succ, Nat.mul_comm (2 ^ k) 2, Nat.mul_assoc]
    rw [h, show (2 * (2 ^ k * y) + x) % 2 = x % 2 by omega, show (2 * (2 ^ k * y) + x) / 2 = 2 ^ k * y + x / 2 by omega, popc_mod k (x / 2) y]
theorem stages_word (x : Nat) (hx : x < 65536) : stages x = 256 * popc 8 (x / 256) + popc 8 (x % 256) := by
  have h1 := all16_of stages_split (x / 256) (by omega)
  have h2 := all16_of h1 (x % 256) (by omega)
  have h3 := Nat.eq_of_beq_eq_true h2
  rw [Nat.div_add_mod] at h3
  exact h3
theorem popc_word (x : Nat) : popc 16 x = popc 8 (x % 256) + popc 8 (x / 256) := by
  rw [show (16 : Nat) = 8 + 8 from rfl, popc_add 8 8 x]
  congr 1
  have := popc_mod 8 (x % 256) (x / 256)
  rw [show (2 : Nat) ^ 8 = 256 from rfl, Nat.div_add_mod] at this
  exact this
theorem onesCount64_eq (x : Nat) (hx : x < 65536) : bits_OnesCount64.f x = some ((popc 16 x : Nat) : Int) := by
  rw [onesCount_stages x hx, stages_word x hx, popc_word]
  have h1 := popc_le 8 (x / 256)
  have h2 := popc_le 8 (x % 256)
  generalize popc 8 (x / 256) = a at h1 ⊢
  generalize popc 8 (x % 256) = b at h2 ⊢
  have e1 : IntKind.u64.wrap (((256 * a + b : Nat) : Int) + ((256 * a + b : Nat) : Int) / 256) = ((256 * a + b + a : Nat) : Int) := by rw [wrap_u64]; omega
  have g2 : ∀ A : Nat, A < 65536 → IntKind.u64.wrap ((A : Int) + (A : Int) / 65536) = (A : Int) := fun A hA => by rw [wrap_u64]; omega
  have g3 : ∀ A : Nat, A < 65536 → IntKind.u64.wrap ((A : Int) + (A : Int) / 4294967296) = (A : Int) := fun A hA => by rw [wrap_u64]; omega
  have e2 := g2 (256 * a + b + a) (by omega)
  have e3 := g3 (256 * a + b + a) (by omega)
  rw [e1, e2, e3, wrap_id _ (by omega) (by omega), show (127 : Int) = ((127 : Nat) : Int) from rfl, bits_and _ _ (by omega) (by omega)]
  congr 2
  rw [show (127 : Nat) = 2 ^ 7 - 1 from rfl, Nat.and_two_pow_sub_one_eq_mod]
  omega

theorem onesCount_eq (x : Nat) (hx : x < 65536) : bits_OnesCount.f x = some ((popc 16 x : Nat) : Int) := by unfold bits_OnesCount.f; rw [onesCount64_eq x hx]; rfl

theorem impl_WaysOf_bad (a b : Int) (h : GoodK a b = false) : impl_WaysOf.f a b = some (0, false) := by
  unfold impl_WaysOf.f; rw [impl_GoodKnown_eq, h]; rfl
theorem impl_WaysOf_eq (a b : Nat) (h : GoodK a b = true) (hb : b < 65536) : impl_WaysOf.f a b = some (((2 ^ popc 16 b : Nat) : Int), true) := by
  unfold impl_WaysOf.f; rw [impl_GoodKnown_eq, h]
  have hu : IntKind.u64.wrap (b : Int) = (b : Int) := by rw [wrap_u64]; omega
  rw [hu, onesCount_eq b hb]
  have := popc_le 16 b
  simp only [Option.bind_some, if_true]
  rw [if_pos (by omega), shl_one _ (by omega)]

theorem and_pow (m j : Nat) : m &&& 2 ^ j = if m.testBit j = true then 2 ^ j else 0 := by
  apply Nat.eq_of_testBit_eq
  intro i
  rw [Nat.testBit_and]
  by_cases h : i = j
  · subst h
    by_cases hb : m.testBit i = true
    · rw [if_pos hb, hb, Nat.testBit_two_pow_self]; rfl
    · rw [if_neg hb]; simp only [Bool.not_eq_true] at hb; rw [hb, Nat.zero_testBit]; rfl
  · rw [Nat.testBit_two_pow_of_ne (by omega), Bool.and_false]
    split
    · rw [Nat.testBit_two_pow_of_ne (by omega)]
    · rw [Nat.zero_testBit]
theorem add_orp {a p : Nat} (ha : a < 65536) (hp : p ≤ 32768) (hz : a &&& p = 0) : a + p = a ||| p := by
  have := BitVec.add_eq_or_of_and_eq_zero (BitVec.ofNat 64 a) (BitVec.ofNat 64 p) (by
    apply BitVec.eq_of_toNat_eq
    rw [BitVec.toNat_and, BitVec.toNat_ofNat, BitVec.toNat_ofNat, Nat.mod_eq_of_lt (by omega), Nat.mod_eq_of_lt (by omega), hz]; rfl)
  have := congrArg BitVec.toNat this
  rw [BitVec.toNat_add, BitVec.toNat_or, BitVec.toNat_ofNat, BitVec.toNat_ofNat, Nat.mod_eq_of_lt (show a < 2 ^ 64 by omega), Nat.mod_eq_of_lt (show p < 2 ^ 64 by omega), Nat.mod_eq_of_lt (by omega)] at this
  exact this
theorem pow15 {j : Nat} (hj : j < 16) : 2 ^ j ≤ 32768 := Nat.pow_le_pow_right (n := 2) (show 2 > 0 by decide) (show j ≤ 15 by omega)
theorem pow16 {j : Nat} (hj : j ≤ 16) : 2 ^ j ≤ 65536 := Nat.pow_le_pow_right (n := 2) (show 2 > 0 by decide) hj
theorem add_or {a j : Nat} (ha : a < 65536) (hj : j < 16) (h : a.testBit j = false) : a + 2 ^ j = a ||| 2 ^ j :=
  add_orp ha (pow15 hj) (by rw [and_pow, h]; simp)
theorem or_ltp {a p : Nat} (ha : a < 65536) (hp : p ≤ 32768) : a ||| p < 65536 := word_or ha (by omega)
/-- The bits of n laid to the places of a mask, from place j on. -/
def deposit (m : Nat) : Nat → Nat → Nat → Nat → Nat
  | 0, _, _, out => out
  | d + 1, j, n, out => if m.testBit j = true then deposit m d (j + 1) (n / 2) (out + n % 2 * 2 ^ j) else deposit m d (j + 1) n out

section
variable {v m n out p : Nat} {r : Int} {r2 : Int × Bool}
theorem na_skipS (hm : m < 65536) (hp : 0 < p) (hp2 : p ≤ 32768) (hz : m &&& p = 0) (h : Ev (fun q => spec_l10At.l0 q (n : Int) (out : Int) ((p * 2 : Nat) : Int) (v : Int) (m : Int)) r) : Ev (fun q => spec_l10At.l0 q (n : Int) (out : Int) ((p : Nat) : Int) (v : Int) (m : Int)) r := by
  have ha : Go.bits .and .i64 (m : Int) ((p : Nat) : Int) = ((m &&& p : Nat) : Int) := bits_and _ _ (by omega) (by omega)
  have hw : wrap64 (((p : Nat) : Int) * 2) = ((p * 2 : Nat) : Int) := by rw [wrap_id _ (by omega) (by omega)]; omega
  refine Ev.step (fun q => spec_l10At.l0.eq_2 ..) (Ev.pos (by omega) <| Ev.pos (by rw [ha, hz]; rfl) ?_)
  rw [hw]; exact h
theorem na_skipI (hm : m < 65536) (hp : 0 < p) (hp2 : p ≤ 32768) (hz : m &&& p = 0) (h : Ev (fun q => impl_NumberAt.l0 q (n : Int) (out : Int) ((p * 2 : Nat) : Int) (v : Int) (m : Int)) r2) : Ev (fun q => impl_NumberAt.l0 q (n : Int) (out : Int) ((p : Nat) : Int) (v : Int) (m : Int)) r2 := by
  have ha : Go.bits .and .i64 (m : Int) ((p : Nat) : Int) = ((m &&& p : Nat) : Int) := bits_and _ _ (by omega) (by omega)
  have hw : wrap64 (((p : Nat) : Int) * 2) = ((p * 2 : Nat) : Int) := by rw [wrap_id _ (by omega) (by omega)]; omega
  refine Ev.step (fun q => impl_NumberAt.l0.eq_2 ..) (Ev.pos (by omega) <| Ev.pos (by rw [ha, hz]; rfl) ?_)
  rw [hw]; exact h
theorem na_takeS (hm : m < 65536) (hp : 0 < p) (hp2 : p ≤ 32768) (hz : m &&& p = p) (ho : out < 65536) (hn : n < 4294967296) (hor : out + p = out ||| p)
    (h : Ev (fun q => spec_l10At.l0 q ((n / 2 : Nat) : Int) ((out + n % 2 * p : Nat) : Int) ((p * 2 : Nat) : Int) (v : Int) (m : Int)) r) : Ev (fun q => spec_l10At.l0 q (n : Int) (out : Int) ((p : Nat) : Int) (v : Int) (m : Int)) r := by
  have ha : Go.bits .and .i64 (m : Int) ((p : Nat) : Int) = ((m &&& p : Nat) : Int) := bits_and _ _ (by omega) (by omega)
  have hw : wrap64 (((p : Nat) : Int) * 2) = ((p * 2 : Nat) : Int) := by rw [wrap_id _ (by omega) (by omega)]; omega
  have ht : Int.tmod (n : Int) 2 = ((n % 2 : Nat) : Int) := by rw [Int.tmod_eq_emod_of_nonneg (by omega)]; omega
  have hd : wrap64 (Int.tdiv (n : Int) 2) = ((n / 2 : Nat) : Int) := by rw [Int.tdiv_eq_ediv_of_nonneg (by omega), wrap_id _ (by omega) (by omega)]; omega
  refine Ev.step (fun q => spec_l10At.l0.eq_2 ..) (Ev.pos (by omega) <| Ev.neg (by rw [ha, hz]; omega) ?_)
  rcases Nat.mod_two_eq_zero_or_one n with h0 | h0
  · rw [h0, Nat.zero_mul, Nat.add_zero] at h
    refine Ev.neg (by rw [ht]; omega) ?_
    rw [hw, hd]; exact h
  · rw [h0, Nat.one_mul, hor] at h
    refine Ev.pos (by rw [ht]; omega) ?_
    rw [hw, hd, bits_or _ _ (by omega) (by omega)]; exact h
theorem na_takeI (hm : m < 65536) (hp : 0 < p) (hp2 : p ≤ 32768) (hz : m &&& p = p) (ho : out < 65536) (hn : n < 4294967296)
    (h : Ev (fun q => impl_NumberAt.l0 q ((n / 2 : Nat) : Int) ((out + n % 2 * p : Nat) : Int) ((p * 2 : Nat) : Int) (v : Int) (m : Int)) r2) : Ev (fun q => impl_NumberAt.l0 q (n : Int) (out : Int) ((p : Nat) : Int) (v : Int) (m : Int)) r2 := by
  have ha : Go.bits .and .i64 (m : Int) ((p : Nat) : Int) = ((m &&& p : Nat) : Int) := bits_and _ _ (by omega) (by omega)
  have hw : wrap64 (((p : Nat) : Int) * 2) = ((p * 2 : Nat) : Int) := by rw [wrap_id _ (by omega) (by omega)]; omega
  have ht : Int.tmod (n : Int) 2 = ((n % 2 : Nat) : Int) := by rw [Int.tmod_eq_emod_of_nonneg (by omega)]; omega
  have hd : wrap64 (Int.tdiv (n : Int) 2) = ((n / 2 : Nat) : Int) := by rw [Int.tdiv_eq_ediv_of_nonneg (by omega), wrap_id _ (by omega) (by omega)]; omega
  have hs : wrap64 ((out : Int) + wrap64 (((n % 2 : Nat) : Int) * ((p : Nat) : Int))) = ((out + n % 2 * p : Nat) : Int) := by
    rcases Nat.mod_two_eq_zero_or_one n with h0 | h0
    · rw [h0, Nat.zero_mul, show ((0 : Nat) : Int) * (p : Int) = 0 by simp]; unfold wrap64; omega
    · rw [h0, Nat.one_mul, show ((1 : Nat) : Int) * (p : Int) = (p : Int) by simp, wrap_id (p : Int) (by omega) (by omega), wrap_id _ (by omega) (by omega)]; omega
  refine Ev.step (fun q => impl_NumberAt.l0.eq_2 ..) (Ev.pos (by omega) <| Ev.neg (by rw [ha, hz]; omega) ?_)
  rw [hw, hd, ht, hs]; exact h
end
theorem numberAt_loop (v m : Nat) (hm : m < 65536) : ∀ (d j n out : Nat), j + d = 16 → out < 65536 → n < 4294967296 → (∀ i, j ≤ i → m.testBit i = true → out.testBit i = false) →
    Ev (fun q => spec_l10At.l0 q (n : Int) (out : Int) ((2 ^ j : Nat) : Int) (v : Int) (m : Int)) ((deposit m d j n out : Nat) : Int) ∧ Ev (fun q => impl_NumberAt.l0 q (n : Int) (out : Int) ((2 ^ j : Nat) : Int) (v : Int) (m : Int)) (((deposit m d j n out : Nat) : Int), true)
  | 0, j, n, out, hj, ho, hn, hi => by
    obtain rfl : j = 16 := by omega
    exact ⟨Ev.step (fun q => spec_l10At.l0.eq_2 ..) (Ev.neg (by decide) (Ev.now _)), Ev.step (fun q => impl_NumberAt.l0.eq_2 ..) (Ev.neg (by decide) (Ev.now _))⟩
  | d + 1, j, n, out, hj, ho, hn, hi => by
    have hpl : 2 ^ j ≤ 32768 := pow15 (by omega)
    have hpos := Nat.two_pow_pos j
    have hps : 2 ^ (j + 1) = 2 ^ j * 2 := Nat.pow_succ 2 j
    have hz := and_pow m j
    unfold deposit
    by_cases hb : m.testBit j = true
    · rw [if_pos hb] at hz ⊢
      have hob := hi j (Nat.le_refl _) hb
      have hor := add_or ho (by omega) hob
      have hlt : out ||| 2 ^ j < 65536 := or_ltp ho hpl
      have hn2 : n / 2 < 4294967296 := by omega
      have hi1 : ∀ i, j + 1 ≤ i → m.testBit i = true → (out + n % 2 * 2 ^ j).testBit i = false := by
        intro i h h'
        rcases Nat.mod_two_eq_zero_or_one n with h0 | h0
        · rw [h0, Nat.zero_mul, Nat.add_zero]; exact hi i (by omega) h'
        · rw [h0, Nat.one_mul, hor, Nat.testBit_or, hi i (by omega) h', Nat.testBit_two_pow_of_ne (by omega)]; rfl
      have ho1 : out + n % 2 * 2 ^ j < 65536 := by
        rcases Nat.mod_two_eq_zero_or_one n with h0 | h0
        · rw [h0, Nat.zero_mul, Nat.add_zero]; exact ho
        · rw [h0, Nat.one_mul, hor]; exact hlt
      have hrec := numberAt_loop v m hm d (j + 1) (n / 2) (out + n % 2 * 2 ^ j) (by omega) ho1 hn2 hi1
      generalize deposit m d (j + 1) (n / 2) (out + n % 2 * 2 ^ j) = D at hrec ⊢
      rw [hps] at hrec
      exact ⟨na_takeS hm hpos hpl hz ho hn hor hrec.1, na_takeI hm hpos hpl hz ho hn hrec.2⟩
    · rw [if_neg hb] at hz ⊢
      have hrec := numberAt_loop v m hm d (j + 1) n out (by omega) ho hn (fun i h => hi i (by omega))
      rw [hps] at hrec
      exact ⟨na_skipS hm hpos hpl hz hrec.1, na_skipI hm hpos hpl hz hrec.2⟩
/-- The n-th word of a known. -/
def numM (v m n : Nat) : Nat := deposit m 16 0 n v

theorem GoodS_nat {a b : Int} (h : GoodS a b = true) : 0 ≤ a ∧ a ≤ 65535 ∧ 0 ≤ b ∧ b ≤ 65535 ∧ a ≤ b := by
  unfold GoodS In at h
  simp only [Bool.and_eq_true, decide_eq_true_eq] at h
  omega
theorem tmod_word (x : Int) : (0 ≤ x ∧ Int.tmod x 65536 = x % 65536) ∨ (x < 0 ∧ Int.tmod x 65536 = -((-x) % 65536)) := by
  by_cases h : 0 ≤ x
  · exact Or.inl ⟨h, Int.tmod_eq_emod_of_nonneg h⟩
  · refine Or.inr ⟨by omega, ?_⟩
    have := Int.neg_tmod (-x) 65536
    rw [Int.neg_neg] at this
    rw [this, Int.tmod_eq_emod_of_nonneg (by omega)]
theorem word_wrap (x : Int) : Int.tmod (wrap64 ((Int.tmod x 65536) + 65536)) 65536 = x % 65536 := by
  rcases tmod_word x with ⟨h, e⟩ | ⟨h, e⟩
  · rw [e, wrap_id _ (by omega) (by omega), Int.tmod_eq_emod_of_nonneg (by omega)]; omega
  · rw [e, wrap_id _ (by omega) (by omega), Int.tmod_eq_emod_of_nonneg (by omega)]; omega
theorem bits_word (x : Int) : Go.bits .and .i64 x 65535 = x % 65536 := by
  show IntKind.i64.wrap (((BitVec.ofInt 64 x) &&& (BitVec.ofInt 64 65535)).toNat : Int) = _
  rw [BitVec.toNat_and, BitVec.toNat_ofInt, show (BitVec.ofInt 64 65535).toNat = 2 ^ 16 - 1 by decide, Nat.and_two_pow_sub_one_eq_mod]
  generalize h : (x % ((2 ^ 64 : Nat) : Int)).toNat = n
  rw [wrap_i64_nat _ (by omega)]
  omega
theorem wrap_i64 (y : Int) : IntKind.i64.wrap y = wrap64 y := by
  rw [IntKind.wrap_i64]; unfold wrap64; omega
theorem shl_nat (x : Int) (n : Nat) (h : n ≤ 60) : shl .i64 x (n : Int) = wrap64 (x * ((2 ^ n : Nat) : Int)) := by
  unfold shl
  have e : min (n : Int).toNat IntKind.i64.bits = n := by
    show min (n : Int).toNat 64 = n
    omega
  rw [e, Int.natCast_pow]
  exact wrap_i64 _
theorem shr_nat (x : Int) (n : Nat) (h : n ≤ 60) : shr .i64 x (n : Int) = x / ((2 ^ n : Nat) : Int) := by
  unfold shr
  have e : min (n : Int).toNat IntKind.i64.bits = n := by
    show min (n : Int).toNat 64 = n
    omega
  rw [e, Int.natCast_pow]; rfl
theorem mul_word {a b : Int} (h0 : 0 ≤ a) (h1 : a ≤ 65535) (h2 : 0 ≤ b) (h3 : b ≤ 65535) : 0 ≤ a * b ∧ a * b ≤ 4294836225 := ⟨Int.mul_nonneg h0 h2, Int.mul_le_mul h1 h3 h2 (by omega)⟩

def EndsM (x y : Int) : Int × Int := if x / 65536 = y / 65536 then (x % 65536, y % 65536) else (0, 65535)

theorem shift_lo {b : Int} (h0 : 0 ≤ b) (h1 : b ≤ 65535) : ∃ n : Nat, n < 16 ∧ Int.tmod b 16 = (n : Int) ∧ IntKind.u64.wrap (Int.tmod b 16) = (n : Int) := by
  refine ⟨(b % 16).toNat, by omega, ?_, ?_⟩
  · rw [Int.tmod_eq_emod_of_nonneg h0]; omega
  · rw [Int.tmod_eq_emod_of_nonneg h0, show IntKind.u64.wrap (b % 16) = b % 16 from ?_]
    · omega
    · obtain ⟨m, hm⟩ := Int.eq_ofNat_of_zero_le (show 0 ≤ b % 16 by omega)
      rw [hm]; exact u64_nat m (by omega)
theorem pow_word {n : Nat} (h : n < 16) : 1 ≤ ((2 ^ n : Nat) : Int) ∧ ((2 ^ n : Nat) : Int) ≤ 32768 := by
  have h1 : 2 ^ n ≤ 32768 := Nat.pow_le_pow_right (n := 2) (show 2 > 0 by decide) (show n ≤ 15 by omega)
  have h2 := Nat.two_pow_pos n
  generalize 2 ^ n = p at h1 h2 ⊢
  omega

def mayN (v m x : Nat) : Nat := if x = 1 then v ||| m else andn 65535 v
theorem mayN_lt {v m x : Nat} (hv : v < 65536) (hm : m < 65536) : mayN v m x < 65536 := by
  unfold mayN; split
  · exact word_or hv hm
  · exact word_andn (by omega)

def allIn (lo hi : Int) (l : List Int) : Bool := l.all fun x => In x lo hi
theorem allIn_drop (lo hi : Int) (l : List Int) (i : Nat) (h : i < l.length) : allIn lo hi (l.drop i) = (In l[i] lo hi && allIn lo hi (l.drop (i + 1))) := by
  unfold allIn
  rw [List.drop_eq_getElem_cons h]; rfl

theorem l1All_loop (lo hi : Int) (l : List Int) (hl : l.length ≤ 1099511627776) : ∀ (d i : Nat), i + d = l.length → Ev (fun k => spec_l1All.l0 k lo hi l (l.length : Int) (i : Int)) (allIn lo hi (l.drop i))
  | 0, i, h => by
    rw [List.drop_eq_nil_of_le (by omega)]
    exact Ev.step (fun k => spec_l1All.l0.eq_2 ..) (Ev.neg (by omega) (Ev.now _))
  | d + 1, i, h => by
    refine Ev.step (fun k => spec_l1All.l0.eq_2 ..) (Ev.pos (by omega) <| Ev.pos (by omega) <| Ev.pos (by omega) ?_)
    rw [rd_nat l i (by omega), allIn_drop lo hi l i (by omega), w1 i (by omega)]
    refine Ev.bindE (spec_l1In_eq ..) ?_
    by_cases hb : In l[i] lo hi = true
    · refine Ev.pos hb ?_
      rw [hb]; exact l1All_loop lo hi l hl d (i + 1) (by omega)
    · refine Ev.neg hb ?_
      rw [Bool.eq_false_iff.mpr hb]; exact Ev.now _
theorem l1All_ev (lo hi : Int) (l : List Int) (hl : l.length ≤ 1099511627776) : Ev (fun k => spec_l1All.f k l lo hi) (allIn lo hi l) := l1All_loop lo hi l hl l.length 0 (by omega)

theorem np_eq (x : Int) : impl_areWords.np x = some (!In x 0 65535) := by
  unfold impl_areWords.np impl_areWords.wd
  rw [impl_in_eq]; rfl
theorem areWords_loop (l : List Int) (hl : l.length ≤ 1099511627776) : ∀ (d i : Nat), i + d = l.length → ∃ r, Ev (fun k => impl_areWords.idx k l (i : Int)) r ∧ decide (r ≥ 0) = !allIn 0 65535 (l.drop i)
  | 0, i, h => by
    rw [List.drop_eq_nil_of_le (by omega)]
    exact ⟨-1, Ev.step (fun k => impl_areWords.idx.eq_2 ..) (Ev.neg (by omega) (Ev.now _)), rfl⟩
  | d + 1, i, h => by
    obtain ⟨r, h1, h2⟩ := areWords_loop l hl d (i + 1) (by omega)
    rw [allIn_drop 0 65535 l i (by omega)]
    by_cases hb : In l[i] 0 65535 = true
    · refine ⟨r, Ev.step (fun k => impl_areWords.idx.eq_2 ..) (Ev.pos (by omega) <| Ev.pos (by omega) ?_), by rw [hb, h2]; rfl⟩
      rw [rd_nat l i (by omega), w1 i (by omega)]
      refine Ev.bindE (np_eq ..) (Ev.neg (by rw [hb]; simp) h1)
    · refine ⟨(i : Int), Ev.step (fun k => impl_areWords.idx.eq_2 ..) (Ev.pos (by omega) <| Ev.pos (by omega) ?_), ?_⟩
      · rw [rd_nat l i (by omega)]
        refine Ev.bindE (np_eq ..) (Ev.pos (by rw [Bool.eq_false_iff.mpr hb]; rfl) (Ev.now _))
      · rw [Bool.eq_false_iff.mpr hb, decide_eq_true (by omega)]; rfl
theorem areWords_ev (l : List Int) (hl : l.length ≤ 1099511627776) : Ev (fun k => impl_areWords.f k l) (allIn 0 65535 l) := by
  obtain ⟨r, h1, h2⟩ := areWords_loop l hl l.length 0 (by omega)
  unfold impl_areWords.f impl_areWords.any
  refine Ev.bind (Ev.bind h1 (Ev.now _)) ?_
  rw [h2]
  exact Ev.at_ (Ev.now _) (by simp)

theorem knownOf_loop (l : List Int) (hl : l.length ≤ 1099511627776) : ∀ (d i : Nat) (a b : Int), i + d = l.length → Both (fun _ => True) (fun k => spec_KnownOf.l0 k l (l.length : Int) (i : Int) a b) (fun k => impl_KnownOf.l0 k l (l.length : Int) (i : Int) a b)
  | 0, i, a, b, h => Both.stepL (fun k => spec_KnownOf.l0.eq_2 ..) (Both.stepR (fun k => impl_KnownOf.l0.eq_2 ..) (Both.negL (by omega) (Both.negR (by omega) (Both.now _ trivial))))
  | d + 1, i, a, b, h => by
    refine Both.stepL (fun k => spec_KnownOf.l0.eq_2 ..) (Both.stepR (fun k => impl_KnownOf.l0.eq_2 ..) (Both.posL (by omega) (Both.posR (by omega) (Both.posL (by omega) (Both.posR (by omega) (Both.posL (by omega) (Both.posR (by omega) ?_)))))))
    rw [w1 i (by omega)]
    exact Both.bindEL (spec_l10Join_eq ..) (Both.bindER rfl (Both.bindER (impl_joinKnown_eq ..) (knownOf_loop l hl d (i + 1) _ _ (by omega))))

theorem knownOf_j0 (l : List Int) (x : Bool) (hl : l.length ≤ 1099511627776) (h0 : x = false → 0 < l.length) : Both (fun _ => True) (fun k => spec_KnownOf.j0 k l x) (fun k => impl_KnownOf.j0 k l x) := by
  refine Both.stepL (fun k => spec_KnownOf.j0.eq_2 ..) (Both.stepR (fun k => impl_KnownOf.j0.eq_2 ..) (Both.ite (fun _ => Both.now _ trivial) (fun hx => ?_)))
  have h0 := h0 (Bool.eq_false_iff.mpr hx)
  exact Both.posL (by omega) (Both.posR (by omega) (Both.bindER rfl (knownOf_loop l hl l.length 0 _ _ (by omega))))
theorem knownOf_ev (l : List Int) (hl : l.length ≤ 1099511627776) : Both (fun _ => True) (fun k => spec_KnownOf.f k l) (fun k => impl_KnownOf.f k l) := by
  unfold spec_KnownOf.f impl_KnownOf.f
  refine Both.bindEL (spec_l1In_eq ..) (Both.bindER (impl_in_eq ..) (Both.ite (fun h => ?_) (fun _ => knownOf_j0 l true hl (by simp))))
  have h := In_true.1 h
  exact Both.bindL (l1All_ev 0 65535 l hl) (Both.bindR (areWords_ev l hl) (knownOf_j0 l _ hl (fun _ => by omega)))

/-- The places of a row that are true, from a number on. -/
def tr : List Bool → Nat → List Int
  | [], _ => []
  | b :: v, s => if b = true then (s : Int) :: tr v (s + 1) else tr v (s + 1)
theorem tr_ge : ∀ (v : List Bool) (s : Nat) (x : Int), x ∈ tr v s → (s : Int) ≤ x
  | [], _, _, h => by simp [tr] at h
  | b :: v, s, x, h => by
    unfold tr at h
    by_cases hb : b = true
    · rw [if_pos hb] at h
      rcases List.mem_cons.1 h with h | h
      · omega
      · have := tr_ge v (s + 1) x h; omega
    · rw [if_neg hb] at h
      have := tr_ge v (s + 1) x h; omega
theorem tr_len : ∀ (v : List Bool) (s : Nat), (tr v s).length ≤ v.length
  | [], _ => by simp [tr]
  | b :: v, s => by
    have := tr_len v (s + 1)
    unfold tr
    by_cases hb : b = true
    · rw [if_pos hb]; simp; omega
    · rw [if_neg hb]; simp; omega
theorem tr_mem : ∀ (v : List Bool) (s j : Nat) (h : j < v.length), decide (((s + j : Nat) : Int) ∈ tr v s) = v[j]
  | [], _, _, h => by simp at h
  | b :: v, s, 0, h => by
    unfold tr
    by_cases hb : b = true
    · rw [if_pos hb]; simp [hb]
    · rw [if_neg hb]
      have : ¬ ((s + 0 : Nat) : Int) ∈ tr v (s + 1) := fun h => by have := tr_ge v (s + 1) _ h; omega
      simp only [decide_eq_false this, List.getElem_cons_zero]
      exact (Bool.eq_false_iff.mpr hb).symm
  | b :: v, s, j + 1, h => by
    have ih := tr_mem v (s + 1) j (by simpa using h)
    rw [show s + 1 + j = s + (j + 1) by omega] at ih
    unfold tr
    rw [List.getElem_cons_succ, ← ih]
    by_cases hb : b = true
    · rw [if_pos hb]
      have : ¬ ((s + (j + 1) : Nat) : Int) = (s : Int) := by omega
      simp only [List.mem_cons, this, false_or]
    · rw [if_neg hb]
def putP : List Int → Int → List Int
  | [], x => [x]
  | a :: l, x => if a < x then a :: putP l x else if a = x then a :: l else x :: a :: l
theorem putP_low (l : List Int) (x : Int) (h : ∀ a, a ∈ l → x < a) : putP l x = x :: l := by
  cases l with
  | nil => rfl
  | cons a l =>
    have := h a (by simp)
    unfold putP
    rw [if_neg (by omega), if_neg (by omega)]
theorem putP_tr : ∀ (v : List Bool) (s j : Nat) (h : j < v.length), putP (tr v s) ((s + j : Nat) : Int) = tr (v.set j true) s
  | [], _, _, h => by simp at h
  | b :: v, s, 0, h => by
    have low : ∀ a, a ∈ tr v (s + 1) → (s : Int) < a := fun a ha => by have := tr_ge v (s + 1) a ha; omega
    rw [List.set_cons_zero]
    unfold tr
    rw [if_pos rfl, Nat.add_zero]
    by_cases hb : b = true
    · rw [if_pos hb]; unfold putP; rw [if_neg (by omega), if_pos (by omega)]
    · rw [if_neg hb]; exact putP_low _ _ low
  | b :: v, s, j + 1, h => by
    have ih := putP_tr v (s + 1) j (by simpa using h)
    rw [show s + 1 + j = s + (j + 1) by omega] at ih
    rw [List.set_cons_succ]
    unfold tr
    by_cases hb : b = true
    · rw [if_pos hb, if_pos hb, ← ih]; conv => lhs; unfold putP
      rw [if_pos (by omega)]
    · rw [if_neg hb, if_neg hb, ih]
theorem tr_falses : ∀ (m s : Nat), tr (List.replicate m false) s = []
  | 0, _ => rfl
  | m + 1, s => by rw [List.replicate_succ]; unfold tr; rw [if_neg (by simp)]; exact tr_falses m (s + 1)
theorem rdOf_bool (l : List Bool) (i : Nat) (h : i < l.length) : rdOf false l (i : Int) = l[i] := by unfold rdOf; simp [List.getD, h]

/-- The places of a row that are true and of which a test holds. -/
def trp (f : Nat → Bool) : List Bool → Nat → List Int
  | [], _ => []
  | b :: v, s => if (b && f s) = true then (s : Int) :: trp f v (s + 1) else trp f v (s + 1)
theorem trp_filter (f : Nat → Bool) (g : Int → Bool) (hg : ∀ i : Nat, g (i : Int) = f i) : ∀ (v : List Bool) (s : Nat), (tr v s).filter g = trp f v s
  | [], _ => rfl
  | b :: v, s => by
    have ih := trp_filter f g hg v (s + 1)
    unfold tr trp
    by_cases hb : b = true
    · rw [if_pos hb, hb, Bool.true_and]
      by_cases hf : f s = true
      · rw [if_pos hf, List.filter_cons_of_pos (by rw [hg, hf]), ih]
      · rw [if_neg hf, List.filter_cons_of_neg (by rw [hg]; exact hf), ih]
    · rw [if_neg hb, Bool.eq_false_iff.mpr hb, Bool.false_and, if_neg (by simp), ih]
theorem tr_lt : ∀ (v : List Bool) (s : Nat) (x : Int), x ∈ tr v s → x < ((s + v.length : Nat) : Int)
  | [], _, _, h => by simp [tr] at h
  | b :: v, s, x, h => by
    unfold tr at h
    by_cases hb : b = true
    · rw [if_pos hb] at h
      rcases List.mem_cons.1 h with h | h
      · simp; omega
      · have := tr_lt v (s + 1) x h; simp; omega
    · rw [if_neg hb] at h
      have := tr_lt v (s + 1) x h; simp; omega

/-- What a drawing function comes to, with what is known of it. -/
def EvP {α : Type} (g : Nat → Option α) (P : α → Prop) : Prop := ∃ r, Ev g r ∧ P r
theorem EvP.now {α : Type} {P : α → Prop} (r : α) (h : P r) : EvP (fun _ => some r) P := ⟨r, Ev.now r, h⟩
theorem EvP.bind {α β : Type} {g : Nat → Option α} {f : Nat → α → Option β} {P : α → Prop} {Q : β → Prop} (h : EvP g P) (k : ∀ a, P a → EvP (fun n => f n a) Q) : EvP (fun n => (g n).bind (f n)) Q := by
  obtain ⟨a, h1, h2⟩ := h
  obtain ⟨r, h3, h4⟩ := k a h2
  exact ⟨r, Ev.bind h1 h3, h4⟩
theorem EvP.bindE {α β : Type} {g : Option α} {f : Nat → α → Option β} {P : α → Prop} {Q : β → Prop} (h : ∃ a, g = some a ∧ P a) (k : ∀ a, P a → EvP (fun n => f n a) Q) : EvP (fun n => g.bind (f n)) Q := by
  obtain ⟨a, rfl, h2⟩ := h; exact k a h2
theorem EvP.mono {α : Type} {g : Nat → Option α} {P Q : α → Prop} (h : EvP g P) (k : ∀ a, P a → Q a) : EvP g Q := by obtain ⟨a, h1, h2⟩ := h; exact ⟨a, h1, k a h2⟩
theorem EvP.ite {α : Type} {c : Prop} [Decidable c] {A B : Nat → Option α} {P : α → Prop} (h1 : c → EvP A P) (h2 : ¬ c → EvP B P) : EvP (fun k => if c then A k else B k) P := by
  by_cases h : c
  · obtain ⟨r, a, b⟩ := h1 h; exact ⟨r, Ev.pos h a, b⟩
  · obtain ⟨r, a, b⟩ := h2 h; exact ⟨r, Ev.neg h a, b⟩
theorem EvP.pos {α : Type} {c : Prop} [Decidable c] {A B : Nat → Option α} {P : α → Prop} (h : c) (e : EvP A P) : EvP (fun k => if c then A k else B k) P := EvP.ite (fun _ => e) (fun n => absurd h n)
theorem EvP.neg {α : Type} {c : Prop} [Decidable c] {A B : Nat → Option α} {P : α → Prop} (h : ¬ c) (e : EvP B P) : EvP (fun k => if c then A k else B k) P := EvP.ite (fun n => absurd n h) (fun _ => e)
theorem EvP.step {α : Type} {g f : Nat → Option α} {P : α → Prop} (h : ∀ k, g (k + 1) = f k) (e : EvP f P) : EvP g P := by obtain ⟨r, a, b⟩ := e; exact ⟨r, Ev.step h a, b⟩
theorem EvP.congr {α : Type} {g f : Nat → Option α} {P : α → Prop} (h : ∀ k, g k = f k) (e : EvP f P) : EvP g P := by obtain ⟨r, a, b⟩ := e; exact ⟨r, Ev.congr h a, b⟩
theorem EvP.some' {α : Type} {g : Option α} {P : α → Prop} (h : ∃ a, g = some a ∧ P a) : EvP (fun _ => g) P := by obtain ⟨a, rfl, h⟩ := h; exact EvP.now a h
/-- Bytes. -/
def Bytes (l : List Int) : Prop := l.length ≤ 1099511627776 ∧ ∀ y ∈ l, 0 ≤ y ∧ y ≤ 255
theorem Bytes.rd {l : List Int} (h : Bytes l) (i : Int) (h0 : 0 ≤ i) (h1 : i < (l.length : Int)) : 0 ≤ rd l i ∧ rd l i ≤ 255 := by
  obtain ⟨n, rfl⟩ := Int.eq_ofNat_of_zero_le h0
  have hn : n < l.length := by omega
  rw [rd_nat l n hn]
  exact h.2 _ (List.getElem_mem hn)
theorem u8_wf {y : Int} (h : (Lit.int .u8 y).wf = true) : 0 ≤ y ∧ y ≤ 255 := by
  have h' : (decide (IntKind.u8.min ≤ y) && decide (y ≤ IntKind.u8.max)) = true := h
  have e1 : IntKind.u8.min = 0 := by decide
  have e2 : IntKind.u8.max = 255 := by decide
  rw [e1, e2] at h'
  simpa using h'

/-- A place of the bytes' reader: never far. -/
def CurAt (a : Int) (n : Nat) : Prop := 0 ≤ a ∧ a ≤ n
theorem u64c (x : Int) : 0 ≤ wrap64 (Go.bits .and .u64 x 255) ∧ wrap64 (Go.bits .and .u64 x 255) ≤ 255 := by
  have h : Go.bits .and .u64 x 255 = IntKind.u64.wrap ((BitVec.ofInt 64 x &&& BitVec.ofInt 64 255).toNat : Int) := rfl
  have h2 : (BitVec.ofInt 64 x &&& BitVec.ofInt 64 255).toNat ≤ 255 := by
    rw [BitVec.toNat_and]
    exact Nat.and_le_right
  have h3 : ∀ n : Int, IntKind.u64.wrap n = n % 18446744073709551616 := fun n => by simp [IntKind.wrap, IntKind.bits, IntKind.signed]
  rw [h, h3]
  generalize (BitVec.ofInt 64 x &&& BitVec.ofInt 64 255).toNat = z at h2
  unfold wrap64
  omega
theorem next_ok {l : List Int} (hl : Bytes l) (a s : Int) (h0 : 0 ≤ a) (h1 : a ≤ 1152921504606846976) :
    ∃ r : Int × Int × Int, spec_l1Cur_next.f l a s = some r ∧ (0 ≤ r.1 ∧ r.1 ≤ 255 ∧ r.2.1 = a + 1) := by
  have ew : wrap64 (a + 1) = a + 1 := by unfold wrap64; omega
  unfold spec_l1Cur_next.f
  by_cases c1 : a < (l.length : Int)
  · have hr := hl.rd a h0 c1
    have er : wrap64 (rd l a) = rd l a := by unfold wrap64; omega
    rw [if_pos c1, if_pos h0, ew, if_pos (by omega)]
    exact ⟨_, rfl, by rw [er]; exact hr.1, by rw [er]; exact hr.2, rfl⟩
  · rw [if_neg c1, ew, if_neg (by omega)]
    exact ⟨_, rfl, (u64c _).1, (u64c _).2, rfl⟩

theorem tmod_lt {x n : Int} (h0 : 0 ≤ x) (hn : 0 < n) : 0 ≤ Int.tmod x n ∧ Int.tmod x n < n := by
  rw [Int.tmod_eq_emod_of_nonneg h0]
  exact ⟨Int.emod_nonneg _ (by omega), Int.emod_lt_of_pos _ hn⟩
theorem pick_ok {l : List Int} (hl : Bytes l) (a s n : Int) (h0 : 0 ≤ a) (h1 : a ≤ 1152921504606846975) :
    ∃ r : Int × Int × Int, spec_l1Cur_pick.f l a s n = some r ∧ (0 ≤ r.1 ∧ r.1 ≤ n - 1 ∨ r.1 = 0 ∧ n ≤ 1) ∧ a ≤ r.2.1 ∧ r.2.1 ≤ a + 2 := by
  unfold spec_l1Cur_pick.f
  by_cases c1 : n ≤ 1
  · rw [if_pos c1]; exact ⟨_, rfl, Or.inr ⟨rfl, c1⟩, Int.le_refl _, by show a ≤ a + 2; omega⟩
  · rw [if_neg c1]
    obtain ⟨r, hr, h2, h3, h4⟩ := next_ok hl a s h0 (by omega)
    rw [hr]; simp only [Option.bind_some]
    by_cases c2 : n > 200
    · rw [if_pos c2]
      obtain ⟨q, hq, h5, h6, h7⟩ := next_ok hl r.2.1 r.2.2 (by omega) (by omega)
      rw [hq]; simp only [Option.bind_some]
      rw [if_neg (by omega)]
      have e : wrap64 ((wrap64 (r.1 * 256)) + q.1) = r.1 * 256 + q.1 := by unfold wrap64; omega
      have := tmod_lt (x := r.1 * 256 + q.1) (n := n) (by omega) (by omega)
      refine ⟨_, rfl, Or.inl ?_, ?_, ?_⟩
      · rw [e]; omega
      · show a ≤ q.2.1; omega
      · show q.2.1 ≤ a + 2; omega
    · rw [if_neg c2, if_neg (by omega)]
      have := tmod_lt (x := r.1) (n := n) h2 (by omega)
      refine ⟨_, rfl, Or.inl ?_, ?_, ?_⟩
      · show 0 ≤ Int.tmod r.1 n ∧ Int.tmod r.1 n ≤ n - 1; omega
      · show a ≤ r.2.1; omega
      · show r.2.1 ≤ a + 2; omega

theorem one_ok {l : List Int} (hl : Bytes l) (a s n : Int) (h0 : 0 ≤ a) (h1 : a ≤ 1152921504606846975) :
    ∃ r : Bool × Int × Int, spec_l1Cur_one.f l a s n = some r ∧ a ≤ r.2.1 ∧ r.2.1 ≤ a + 2 := by
  unfold spec_l1Cur_one.f
  obtain ⟨r, hr, _, h2, h3⟩ := pick_ok hl a s n h0 h1
  rw [hr]; exact ⟨_, rfl, h2, h3⟩

theorem among_ok {l : List Int} (hl : Bytes l) (a s : Int) (xs : List Int) (hx : 0 < xs.length) (hx2 : xs.length ≤ 1000) (h0 : 0 ≤ a) (h1 : a ≤ 1152921504606846975) :
    ∃ r : Int × Int × Int, spec_l1Cur_among.f l a s xs = some r ∧ r.1 ∈ xs ∧ a ≤ r.2.1 ∧ r.2.1 ≤ a + 2 := by
  unfold spec_l1Cur_among.f
  obtain ⟨r, hr, h2, h3, h4⟩ := pick_ok hl a s (xs.length : Int) h0 h1
  rw [hr]; simp only [Option.bind_some]
  have hb : 0 ≤ r.1 ∧ r.1 < (xs.length : Int) := by omega
  rw [if_pos hb.1, if_pos hb.2]
  obtain ⟨n, hn⟩ := Int.eq_ofNat_of_zero_le hb.1
  refine ⟨_, rfl, ?_, h3, h4⟩
  show rd xs r.1 ∈ xs
  rw [hn, rd_nat xs n (by omega)]
  exact List.getElem_mem _

theorem word_ok {l : List Int} (hl : Bytes l) (a s : Int) (h0 : 0 ≤ a) (h1 : a ≤ 1152921504606846900) :
    ∃ r : Int × Int × Int, spec_l1Cur_word.f l a s = some r ∧ (0 ≤ r.1 ∧ r.1 ≤ 65535) ∧ a ≤ r.2.1 ∧ r.2.1 ≤ a + 12 := by
  unfold spec_l1Cur_word.f
  obtain ⟨r1, e1, p1, q1, s1⟩ := pick_ok hl a s 256 h0 (by omega)
  rw [e1]; simp only [Option.bind_some]
  obtain ⟨r2, e2, p2, q2, s2⟩ := pick_ok hl r1.2.1 r1.2.2 256 (by omega) (by omega)
  rw [e2]; simp only [Option.bind_some]
  obtain ⟨r3, e3, p3, q3, s3⟩ := pick_ok hl r2.2.1 r2.2.2 256 (by omega) (by omega)
  rw [e3]; simp only [Option.bind_some]
  obtain ⟨r4, e4, p4, q4, s4⟩ := pick_ok hl r3.2.1 r3.2.2 256 (by omega) (by omega)
  rw [e4]; simp only [Option.bind_some]
  obtain ⟨r5, e5, p5, q5, s5⟩ := pick_ok hl r4.2.1 r4.2.2 20 (by omega) (by omega)
  rw [e5]; simp only [Option.bind_some]
  obtain ⟨r6, e6, p6, q6, s6⟩ := among_ok hl r5.2.1 r5.2.2 ([0, 1, 2, 255, 256, 32767, 32768, 65535, wrap64 ((wrap64 (r1.1 * 256)) + r2.1), wrap64 ((wrap64 (r3.1 * 256)) + r4.1), r5.1]) (by simp) (by simp) (by omega) (by omega)
  rw [e6]
  refine ⟨_, rfl, ?_, ?_, ?_⟩
  · show 0 ≤ r6.1 ∧ r6.1 ≤ 65535
    have k1 : wrap64 ((wrap64 (r1.1 * 256)) + r2.1) = r1.1 * 256 + r2.1 := by unfold wrap64; omega
    have k2 : wrap64 ((wrap64 (r3.1 * 256)) + r4.1) = r3.1 * 256 + r4.1 := by unfold wrap64; omega
    rw [k1, k2] at p6
    clear k1 k2
    simp only [List.mem_cons, List.not_mem_nil, or_false] at p6
    omega
  · show a ≤ r6.2.1; omega
  · show r6.2.1 ≤ a + 12; omega

theorem rawWord_ok {l : List Int} (hl : Bytes l) (a s : Int) (h0 : 0 ≤ a) (h1 : a ≤ 1152921504606846800) :
    ∃ r : Int × Int × Int, spec_l1Cur_rawWord.f l a s = some r ∧ (-1 ≤ r.1 ∧ r.1 ≤ 65536) ∧ a ≤ r.2.1 ∧ r.2.1 ≤ a + 14 := by
  unfold spec_l1Cur_rawWord.f
  obtain ⟨r1, e1, q1, s1⟩ := one_ok hl a s 20 h0 (by omega)
  rw [e1]; simp only [Option.bind_some]
  by_cases c : r1.1 = true
  · rw [if_pos c]
    obtain ⟨r6, e6, p6, q6, s6⟩ := among_ok hl r1.2.1 r1.2.2 [(-1), 65536] (by simp) (by simp) (by omega) (by omega)
    rw [e6]
    refine ⟨_, rfl, ?_, ?_, ?_⟩
    · show -1 ≤ r6.1 ∧ r6.1 ≤ 65536
      simp only [List.mem_cons, List.not_mem_nil, or_false] at p6
      omega
    · show a ≤ r6.2.1; omega
    · show r6.2.1 ≤ a + 14; omega
  · rw [if_neg c]
    obtain ⟨r6, e6, p6, q6, s6⟩ := word_ok hl r1.2.1 r1.2.2 (by omega) (by omega)
    rw [e6]
    refine ⟨_, rfl, ?_, ?_, ?_⟩
    · show -1 ≤ r6.1 ∧ r6.1 ≤ 65536; omega
    · show a ≤ r6.2.1; omega
    · show r6.2.1 ≤ a + 14; omega

theorem numberOf_loop {l : List Int} (hl : Bytes l) : ∀ (d i : Nat) (n : Int), i + d = l.length → 0 ≤ n → n ≤ 1000002 → EvP (fun k => laws_numberOf.l0 k n l (l.length : Int) (i : Int)) (fun r => 0 ≤ r ∧ r ≤ 1000002)
  | 0, i, n, hi, h0, h1 => by
    refine EvP.step (fun k => laws_numberOf.l0.eq_2 ..) (EvP.neg (by omega) (EvP.now _ ⟨h0, h1⟩))
  | d + 1, i, n, hi, h0, h1 => by
    have hlt : i < l.length := by omega
    have hr := hl.rd (i : Int) (by omega) (by omega)
    have hL := hl.1
    have e1 : wrap64 (rd l (i : Int)) = rd l (i : Int) := by unfold wrap64; omega
    have e2 : wrap64 (31 * n) = 31 * n := by unfold wrap64; omega
    have e3 : wrap64 (31 * n + rd l (i : Int)) = 31 * n + rd l (i : Int) := by unfold wrap64; omega
    have e4 : wrap64 ((i : Int) + 1) = ((i + 1 : Nat) : Int) := w1 i (by omega)
    have hm := tmod_lt (x := 31 * n + rd l (i : Int)) (n := 1000003) (by omega) (by omega)
    refine EvP.step (fun k => laws_numberOf.l0.eq_2 ..) (EvP.pos (by omega) (EvP.pos (by omega) (EvP.pos (by omega) ?_)))
    rw [e1, e2, e3, e4]
    exact numberOf_loop hl d (i + 1) _ (by omega) hm.1 (by omega)
theorem numberOf_some (l : List Int) (hl : Bytes l) : ∃ k n, laws_numberOf.f k l = some n ∧ 0 ≤ n ∧ n ≤ 1000002 := by
  obtain ⟨r, ⟨K, h⟩, h1⟩ := numberOf_loop hl l.length 0 0 (by omega) (by omega) (by omega)
  exact ⟨K, r, h K (Nat.le_refl _), h1⟩
theorem EvP.get {α : Type} {g : Nat → Option α} {P : α → Prop} (h : EvP g P) : ∃ k r, g k = some r ∧ P r := by
  obtain ⟨r, ⟨K, h⟩, h1⟩ := h; exact ⟨K, r, h K (Nat.le_refl _), h1⟩

theorem bytes_of {l : List Int} (h : l.length * 1 ≤ 140737488351232 ∧ ∀ y0_ ∈ l, (Lit.int .u8 y0_).wf = true) (hs : l.length ≤ 1048576) : Bytes l := ⟨by omega, fun y hy => u8_wf (h.2 y hy)⟩
theorem small_of {l0 l1 : List Int} (h : ¬ (wrap64 ((l0.length : Int) + (l1.length : Int))) > 1048576) (h0 : l0.length * 1 ≤ 140737488351232) (h1 : l1.length * 1 ≤ 140737488351232) : l0.length ≤ 1048576 ∧ l1.length ≤ 1048576 := by
  have e : wrap64 ((l0.length : Int) + (l1.length : Int)) = (l0.length : Int) + (l1.length : Int) := by unfold wrap64; omega
  rw [e] at h; omega

theorem known_j1 {l : List Int} (hl : Bytes l) (x a s : Int) (h0 : 0 ≤ a) (h1 : a ≤ 1152921504606846700) :
    EvP (fun k => spec_l1Cur_known.j1 k x l a s) (fun r => a ≤ r.2.2.1 ∧ r.2.2.1 ≤ a + 50) := by
  refine EvP.step (fun k => spec_l1Cur_known.j1.eq_2 ..) ?_
  refine EvP.bindE (word_ok hl a s h0 (by omega)) fun p hp => EvP.bindE (P := fun _ => True) ⟨_, rfl, trivial⟩ fun q _ => EvP.bindE (one_ok hl _ _ 30 (by omega) (by omega)) fun r hr => EvP.ite (fun _ => ?_) (fun _ => EvP.now _ ?_)
  · refine EvP.bindE (rawWord_ok hl _ _ (by omega) (by omega)) fun u hu => EvP.bindE (rawWord_ok hl _ _ (by omega) (by omega)) fun v hv => EvP.now _ ?_
    show a ≤ v.2.1 ∧ v.2.1 ≤ a + 50; omega
  · show a ≤ r.2.1 ∧ r.2.1 ≤ a + 50; omega
theorem u64_small {x : Int} (h0 : 0 ≤ x) (h1 : x ≤ 1000) : IntKind.u64.wrap x = x := by
  have : IntKind.u64.wrap x = x % 18446744073709551616 := by simp [IntKind.wrap, IntKind.bits, IntKind.signed]
  rw [this]; omega
theorem known_l0 {l : List Int} (hl : Bytes l) : ∀ (d : Nat) (x n a s : Int), n ≤ d → d ≤ 5 → 0 ≤ a → a + 2 * d ≤ 1152921504606846500 →
    EvP (fun k => spec_l1Cur_known.l0 k x n l a s) (fun r => a ≤ r.2.2.1 ∧ r.2.2.1 ≤ a + 64 + 2 * d) 
  | 0, x, n, a, s, hn, hd, h0, h1 => by
    refine EvP.step (fun k => spec_l1Cur_known.l0.eq_2 ..) (EvP.neg (by omega) ?_)
    refine EvP.bindE (one_ok hl a s 8 h0 (by omega)) fun p hp => EvP.ite (fun _ => ?_) (fun _ => ?_)
    · refine EvP.bindE (word_ok hl _ _ (by omega) (by omega)) fun q hq => (known_j1 hl _ _ _ (by omega) (by omega)).mono fun r hr => by omega
    · exact (known_j1 hl _ _ _ (by omega) (by omega)).mono fun r hr => by omega
  | d + 1, x, n, a, s, hn, hd, h0, h1 => by
    by_cases c : n > 0
    · refine EvP.step (fun k => spec_l1Cur_known.l0.eq_2 ..) (EvP.pos c ?_)
      refine EvP.bindE (pick_ok hl a s 16 h0 (by omega)) fun p hp => EvP.pos (by rw [u64_small (by omega) (by omega)]; omega) ?_
      exact (known_l0 hl d _ _ _ _ (by rw [wrap_id _ (by omega) (by omega)]; omega) (by omega) (by omega) (by omega)).mono fun r hr => by omega
    · exact (known_l0 hl d x n a s (by omega) (by omega) h0 (by omega)).mono fun r hr => by omega
theorem known_ok {l : List Int} (hl : Bytes l) (a s : Int) (h0 : 0 ≤ a) (h1 : a ≤ 1152921504606846400) :
    EvP (fun k => spec_l1Cur_known.f k l a s) (fun r => a ≤ r.2.2.1 ∧ r.2.2.1 ≤ a + 80) := by
  unfold spec_l1Cur_known.f
  exact EvP.bindE (pick_ok hl a s 5 h0 (by omega)) fun p hp => (known_l0 hl 5 _ _ _ _ (by omega) (by omega) (by omega) (by omega)).mono fun r hr => by omega

theorem drawJoinKnown_ok {l : List Int} (hl : Bytes l) : EvP (fun k => spec_DrawJoinKnown.f k l) (fun _ => True) := by
  unfold spec_DrawJoinKnown.f
  exact EvP.bind (known_ok hl 0 0 (by omega) (by omega)) fun p hp => EvP.bind (known_ok hl _ _ (by omega) (by omega)) fun q hq => EvP.now _ trivial

theorem drawMeet_j0 {l : List Int} (hl : Bytes l) (x : Bool) (a s u v : Int) (h0 : 0 ≤ a) (h1 : a ≤ 1000000) (hx : x = true → GoodK u v = true) : EvP (fun k => spec_DrawMeetKnown.j0 k x l a s u v) (fun _ => True) := by
  refine EvP.step (fun k => spec_DrawMeetKnown.j0.eq_2 ..) (EvP.ite (fun hc => ?_) (fun _ => ?_))
  · obtain ⟨u, v, rfl, rfl, hu, hv, huv⟩ := GoodK_nat (hx hc)
    refine EvP.bindE (pick_ok hl a s 16 h0 (by omega)) fun p hp => EvP.bind (P := fun _ => True) ?_ fun q _ => EvP.bindE (word_ok hl _ _ (by omega) (by omega)) fun r hr => EvP.bindE (P := fun _ => True) ⟨_, rfl, trivial⟩ fun t _ => EvP.now _ trivial
    obtain ⟨n, hn⟩ := Int.eq_ofNat_of_zero_le (show 0 ≤ p.1 by omega)
    rw [hn]
    exact ⟨_, (numberAt_loop u v hv 16 0 n u (by omega) hu (by omega) (fun i _ hi => by have := and_zero_bit huv i; rw [hi] at this; simpa using this)).1, trivial⟩
  · exact EvP.bind (known_ok hl _ _ (by omega) (by omega)) fun q hq => EvP.now _ trivial
theorem drawMeetKnown_ok {l : List Int} (hl : Bytes l) : EvP (fun k => spec_DrawMeetKnown.f k l) (fun _ => True) := by
  unfold spec_DrawMeetKnown.f
  refine EvP.bind (known_ok hl 0 0 (by omega) (by omega)) fun p hp => EvP.bindE (one_ok hl _ _ 2 (by omega) (by omega)) fun q hq => EvP.ite (fun _ => ?_) (fun _ => ?_)
  · exact EvP.bindE (P := fun t => t = GoodK p.1 p.2.1) ⟨_, spec_GoodKnown_eq .., rfl⟩ fun t ht => drawMeet_j0 hl _ _ _ _ _ (by omega) (by omega) (fun h => by rw [← ht]; exact h)
  · exact drawMeet_j0 hl _ _ _ _ _ (by omega) (by omega) (fun h => by cases h)

theorem drawKnownOf_l0 {l : List Int} (hl : Bytes l) : ∀ (d : Nat) (xs : List Int) (n a s : Int), n ≤ d → xs.length + d ≤ 100 → 0 ≤ a → a + 14 * d ≤ 1000000 →
    EvP (fun k => spec_DrawKnownOf.l0 k xs n l a s) (fun r => r.length ≤ 100)
  | 0, xs, n, a, s, hn, hx, h0, h1 => EvP.step (fun k => spec_DrawKnownOf.l0.eq_2 ..) (EvP.neg (by omega) (EvP.now _ (by omega)))
  | d + 1, xs, n, a, s, hn, hx, h0, h1 => by
    refine EvP.step (fun k => spec_DrawKnownOf.l0.eq_2 ..) (EvP.ite (fun c => ?_) (fun _ => EvP.now _ (by omega)))
    refine EvP.bindE (rawWord_ok hl _ _ h0 (by omega)) fun p hp => EvP.pos (by omega) ?_
    exact drawKnownOf_l0 hl d _ _ _ _ (by rw [wrap_id _ (by omega) (by omega)]; omega) (by rw [List.length_append]; simp; omega) (by omega) (by omega)
theorem drawKnownOf_ok {l : List Int} (hl : Bytes l) : EvP (fun k => spec_DrawKnownOf.f k l) (fun r => r.length ≤ 100) := by
  unfold spec_DrawKnownOf.f
  refine EvP.bindE (pick_ok hl 0 0 6 (by omega) (by omega)) fun p hp => EvP.bindE (one_ok hl _ _ 20 (by omega) (by omega)) fun q hq => EvP.ite (fun _ => ?_) (fun _ => ?_)
  · refine EvP.bindE (pick_ok hl _ _ 2 (by omega) (by omega)) fun r hr => EvP.step (fun k => spec_DrawKnownOf.j0.eq_2 ..) ?_
    exact drawKnownOf_l0 hl 50 _ _ _ _ (by rw [wrap_id _ (by omega) (by omega)]; omega) (by simp) (by omega) (by omega)
  · exact EvP.step (fun k => spec_DrawKnownOf.j0.eq_2 ..) (drawKnownOf_l0 hl 50 _ _ _ _ (by omega) (by simp) (by omega) (by omega))

theorem deposit_bits (m : Nat) : ∀ (d j n out : Nat), j + d = 16 → out < 65536 → (∀ i, j ≤ i → m.testBit i = true → out.testBit i = false) →
    deposit m d j n out < 65536 ∧ ∀ i, (m.testBit i = false ∨ i < j) → (deposit m d j n out).testBit i = out.testBit i
  | 0, j, n, out, hj, ho, hi => ⟨ho, fun _ _ => rfl⟩
  | d + 1, j, n, out, hj, ho, hi => by
    unfold deposit
    by_cases hb : m.testBit j = true
    · rw [if_pos hb]
      have hor := add_or ho (by omega) (hi j (Nat.le_refl _) hb)
      have hlt : out ||| 2 ^ j < 65536 := or_ltp ho (pow15 (by omega))
      have key : out + n % 2 * 2 ^ j = out ∨ out + n % 2 * 2 ^ j = out ||| 2 ^ j := by
        rcases Nat.mod_two_eq_zero_or_one n with h0 | h0
        · left; rw [h0]; omega
        · right; rw [h0, Nat.one_mul, hor]
      have hn : out + n % 2 * 2 ^ j < 65536 ∧ ∀ i, i ≠ j → (out + n % 2 * 2 ^ j).testBit i = out.testBit i := by
        rcases key with e | e <;> rw [e]
        · exact ⟨ho, fun _ _ => rfl⟩
        · exact ⟨hlt, fun i hne => by rw [Nat.testBit_or, Nat.testBit_two_pow_of_ne (Ne.symm hne)]; simp⟩
      obtain ⟨h1, h2⟩ := deposit_bits m d (j + 1) (n / 2) _ (by omega) hn.1 (fun i hij hm => by rw [hn.2 i (by omega)]; exact hi i (by omega) hm)
      refine ⟨h1, fun i h => ?_⟩
      rw [h2 i (by rcases h with h | h; exact Or.inl h; exact Or.inr (by omega)), hn.2 i]
      rintro rfl
      rcases h with h | h
      · rw [hb] at h; cases h
      · omega
    · rw [if_neg hb]
      obtain ⟨h1, h2⟩ := deposit_bits m d (j + 1) n out (by omega) ho (fun i hij => hi i (by omega))
      exact ⟨h1, fun i h => h2 i (by rcases h with h | h; exact Or.inl h; exact Or.inr (by omega))⟩
theorem numM_match {v m n : Nat} (hv : v < 65536) (hvm : v &&& m = 0) : numM v m n < 65536 ∧ andn (numM v m n) m = v := by
  obtain ⟨h1, h2⟩ := deposit_bits m 16 0 n v (by omega) hv (fun i _ hi => by have := and_zero_bit hvm i; rw [hi] at this; simpa using this)
  refine ⟨h1, ?_⟩
  apply Nat.eq_of_testBit_eq; intro i
  have hb := and_zero_bit hvm i
  rw [testBit_andn]
  cases hm : m.testBit i with
  | true => rw [hm] at hb; revert hb; cases v.testBit i <;> simp
  | false => unfold numM; rw [h2 i (Or.inl hm)]; simp

theorem numberAt_impl (a b n : Nat) (h : GoodK a b = true) (hb : b < 65536) (ha : a < 65536) (hab : a &&& b = 0) (hn : n < 2 ^ popc 16 b) : Ev (fun k => impl_NumberAt.f k a b (n : Int)) (((numM a b n : Nat) : Int), true) := by
  have hp2 := pow16 (popc_le 16 b)
  have e2 := impl_WaysOf_eq a b h hb
  generalize 2 ^ popc 16 b = P at hn hp2 e2
  have hf : In (n : Int) 0 ((P : Int) - 1) = true := by rw [In_true]; omega
  obtain ⟨h1, h2⟩ := numberAt_loop a b hb 16 0 n a (by omega) ha (by omega) (fun i _ hi => by have := and_zero_bit hab i; rw [hi] at this; simpa using this)
  unfold impl_NumberAt.f
  refine Ev.bindE e2 (Ev.pos rfl ?_)
  rw [wrap_id _ (by omega) (by omega)]
  refine Ev.bindE (impl_in_eq ..) ?_
  rw [hf]
  exact Ev.step (fun k => impl_NumberAt.j0.eq_2 ..) (Ev.neg (by simp) h2)

/-- Words that match. -/
def Mt (v m x : Int) : Prop := 0 ≤ x ∧ x ≤ 65535 ∧ Go.bits .andNot .i64 x m = v
theorem GoodK_mk {a b : Nat} (ha : a < 65536) (hb : b < 65536) (h : a &&& b = 0) : GoodK (a : Int) (b : Int) = true := by
  unfold GoodK
  rw [bits_and a b (by omega) (by omega), h, In_true.2 (by omega), In_true.2 (by omega)]; rfl
theorem Mt_nat {a b x : Nat} (hb : b < 65536) (hx : x < 65536) : Mt (a : Int) (b : Int) (x : Int) ↔ andn x b = a := by
  unfold Mt
  rw [bits_andNot x b (by omega) (by omega)]
  constructor
  · rintro ⟨_, _, h⟩; omega
  · intro h; rw [h]; omega
def jm (a b c d : Nat) : Nat := (b ||| d) ||| (a ^^^ c)
theorem jm_lt {a b c d : Nat} (ha : a < 65536) (hb : b < 65536) (hc : c < 65536) (hd : d < 65536) : jm a b c d < 65536 := word_or (word_or hb hd) (word_xor ha hc)
theorem JoinK_nat {a b c d : Nat} (ha : a < 65536) (hb : b < 65536) (hc : c < 65536) (hd : d < 65536) : JoinK (a : Int) b c d = (((andn a (jm a b c d) : Nat) : Int), ((jm a b c d : Nat) : Int)) := by
  have h1 := word_or hb hd
  have h2 := word_xor ha hc
  have h3 := jm_lt ha hb hc hd
  unfold JoinK
  rw [bits_or b d (by omega) (by omega), bits_xor a c (by omega) (by omega), bits_or (b ||| d) (a ^^^ c) (by omega) (by omega), bits_andNot a ((b ||| d) ||| (a ^^^ c)) (by omega) (by unfold jm at h3; omega)]
  rfl
theorem join_good {a b c d : Int} (h1 : GoodK a b = true) (h2 : GoodK c d = true) : GoodK (JoinK a b c d).1 (JoinK a b c d).2 = true ∧ (∀ x, Mt a b x → Mt (JoinK a b c d).1 (JoinK a b c d).2 x) ∧ (∀ x, Mt c d x → Mt (JoinK a b c d).1 (JoinK a b c d).2 x) := by
  obtain ⟨a, b, rfl, rfl, ha, hb, hab⟩ := GoodK_nat h1
  obtain ⟨c, d, rfl, rfl, hc, hd, hcd⟩ := GoodK_nat h2
  rw [JoinK_nat ha hb hc hd]
  have hj := jm_lt ha hb hc hd
  refine ⟨GoodK_mk (word_andn ha) hj ?_, fun x hx => ?_, fun x hx => ?_⟩
  · apply Nat.eq_of_testBit_eq; intro i
    rw [Nat.testBit_and, testBit_andn]; simp
  · obtain ⟨n, rfl⟩ := Int.eq_ofNat_of_zero_le hx.1
    have hn : n < 65536 := by have := hx.2.1; omega
    have e := (Mt_nat hb hn).1 hx
    refine (Mt_nat hj hn).2 ?_
    apply Nat.eq_of_testBit_eq; intro i
    have e1 : (andn n b).testBit i = a.testBit i := by rw [e]
    rw [testBit_andn] at e1
    simp only [testBit_andn, jm, Nat.testBit_or, Nat.testBit_xor]
    revert e1
    cases n.testBit i <;> cases a.testBit i <;> cases b.testBit i <;> cases c.testBit i <;> cases d.testBit i <;> simp
  · obtain ⟨n, rfl⟩ := Int.eq_ofNat_of_zero_le hx.1
    have hn : n < 65536 := by have := hx.2.1; omega
    have e := (Mt_nat hd hn).1 hx
    refine (Mt_nat hj hn).2 ?_
    apply Nat.eq_of_testBit_eq; intro i
    have e1 : (andn n d).testBit i = c.testBit i := by rw [e]
    have k1 := and_zero_bit hab i
    rw [testBit_andn] at e1
    simp only [testBit_andn, jm, Nat.testBit_or, Nat.testBit_xor]
    revert e1 k1
    cases n.testBit i <;> cases a.testBit i <;> cases b.testBit i <;> cases c.testBit i <;> cases d.testBit i <;> simp

theorem mayBe_ok {v m x : Int} (h : GoodK v m = true) (h0 : 0 ≤ x) (h1 : x ≤ 65535) : impl_MayBe.f v m x = some (Go.bits .andNot .i64 x m == v, true) := by
  rw [impl_MayBe_eq, h, In_true.2 ⟨h0, h1⟩]; rfl
theorem mayBe_mt {v m x : Int} (h : GoodK v m = true) (hx : Mt v m x) : impl_MayBe.f v m x = some (true, true) := by
  rw [mayBe_ok h hx.1 hx.2.1, hx.2.2]; simp

/-- The meet: where both match, it is there, and matches what both match. -/
theorem meet_good {a b c d : Int} (h1 : GoodK a b = true) (h2 : GoodK c d = true) : ∃ v m ok, spec_l10Meet.f a b c d = some (v, m, ok) ∧ (ok = true → GoodK v m = true) ∧ (∀ x, Mt a b x → Mt c d x → ok = true) ∧ (ok = true → ∀ x, Mt a b x → (Mt v m x ↔ Mt c d x)) := by
  obtain ⟨a, b, rfl, rfl, ha, hb, hab⟩ := GoodK_nat h1
  obtain ⟨c, d, rfl, rfl, hc, hd, hcd⟩ := GoodK_nat h2
  have hx := word_xor ha hc
  have ho := word_or hb hd
  have hv := word_or ha hc
  have hm := word_and (b := d) hb
  have hz : ∀ i, Nat.testBit 0 i = false := Nat.zero_testBit
  unfold spec_l10Meet.f
  rw [bits_xor a c (by omega) (by omega), bits_or b d (by omega) (by omega), bits_andNot (a ^^^ c) (b ||| d) (by omega) (by omega), bits_or a c (by omega) (by omega), bits_and b d (by omega) (by omega)]
  by_cases hq : ((andn (a ^^^ c) (b ||| d) : Nat) : Int) = 0
  · rw [if_pos hq]
    have hq' : andn (a ^^^ c) (b ||| d) = 0 := by omega
    refine ⟨_, _, _, rfl, fun _ => GoodK_mk hv hm ?_, fun _ _ _ => rfl, fun _ x hxa => ?_⟩
    · apply Nat.eq_of_testBit_eq; intro i
      have k1 := and_zero_bit hab i
      have k2 := and_zero_bit hcd i
      rw [hz]; simp only [Nat.testBit_or, Nat.testBit_and]
      revert k1 k2
      cases a.testBit i <;> cases b.testBit i <;> cases c.testBit i <;> cases d.testBit i <;> simp
    · obtain ⟨n, rfl⟩ := Int.eq_ofNat_of_zero_le hxa.1
      have hn : n < 65536 := by have := hxa.2.1; omega
      have e := (Mt_nat hb hn).1 hxa
      have eb : ∀ i, (n.testBit i && !b.testBit i) = a.testBit i := fun i => by rw [← testBit_andn, e]
      have qb : ∀ i, ((a.testBit i ^^ c.testBit i) && !(b.testBit i || d.testBit i)) = false := fun i => by
        have := hz i; rw [← hq', testBit_andn, Nat.testBit_xor, Nat.testBit_or] at this; exact this
      rw [Mt_nat hm hn, Mt_nat hd hn]
      constructor
      · intro h
        apply Nat.eq_of_testBit_eq; intro i
        have h' : (andn n (b &&& d)).testBit i = (a ||| c).testBit i := by rw [h]
        have k2 := and_zero_bit hcd i
        have e1 := eb i
        have q1 := qb i
        rw [testBit_andn, Nat.testBit_and, Nat.testBit_or] at h'
        rw [testBit_andn]
        revert h' k2 e1 q1
        cases n.testBit i <;> cases a.testBit i <;> cases b.testBit i <;> cases c.testBit i <;> cases d.testBit i <;> simp
      · intro h
        apply Nat.eq_of_testBit_eq; intro i
        have h' : (andn n d).testBit i = c.testBit i := by rw [h]
        have k2 := and_zero_bit hcd i
        have e1 := eb i
        have q1 := qb i
        rw [testBit_andn] at h'
        rw [testBit_andn, Nat.testBit_and, Nat.testBit_or]
        revert h' k2 e1 q1
        cases n.testBit i <;> cases a.testBit i <;> cases b.testBit i <;> cases c.testBit i <;> cases d.testBit i <;> simp
  · rw [if_neg hq]
    refine ⟨_, _, _, rfl, fun h => (by cases h), fun x hxa hxc => ?_, fun h => (by cases h)⟩
    exfalso; apply hq
    obtain ⟨n, rfl⟩ := Int.eq_ofNat_of_zero_le hxa.1
    have hn : n < 65536 := by have := hxa.2.1; omega
    have e := (Mt_nat hb hn).1 hxa
    have e' := (Mt_nat hd hn).1 hxc
    have : andn (a ^^^ c) (b ||| d) = 0 := by
      apply Nat.eq_of_testBit_eq; intro i
      have e1 : (andn n b).testBit i = a.testBit i := by rw [e]
      have e2 : (andn n d).testBit i = c.testBit i := by rw [e']
      rw [testBit_andn] at e1 e2
      rw [hz, testBit_andn, Nat.testBit_xor, Nat.testBit_or]
      revert e1 e2
      cases n.testBit i <;> cases a.testBit i <;> cases b.testBit i <;> cases c.testBit i <;> cases d.testBit i <;> simp
    omega

theorem exact_good {x : Int} (h0 : 0 ≤ x) (h1 : x ≤ 65535) : GoodK x 0 = true ∧ Mt x 0 x := by
  obtain ⟨n, rfl⟩ := Int.eq_ofNat_of_zero_le h0
  have hn : n < 65536 := by omega
  refine ⟨GoodK_mk (b := 0) hn (by omega) (by simp), (Mt_nat (b := 0) (by omega) hn).2 ?_⟩
  apply Nat.eq_of_testBit_eq; intro i
  rw [testBit_andn]; simp
theorem knownOf_loop2 (l : List Int) (hl : l.length ≤ 1099511627776) (hw : ∀ x ∈ l, 0 ≤ x ∧ x ≤ 65535) : ∀ (d i : Nat) (a b : Int), i + d = l.length → GoodK a b = true → (∀ j (h : j < l.length), j < i → Mt a b l[j]) →
    Both (fun r => GoodK r.1 r.2.1 = true ∧ ∀ x ∈ l, Mt r.1 r.2.1 x) (fun k => spec_KnownOf.l0 k l (l.length : Int) (i : Int) a b) (fun k => impl_KnownOf.l0 k l (l.length : Int) (i : Int) a b)
  | 0, i, a, b, h, hg, hm => Both.stepL (fun k => spec_KnownOf.l0.eq_2 ..) (Both.stepR (fun k => impl_KnownOf.l0.eq_2 ..) (Both.negL (by omega) (Both.negR (by omega) (Both.now _ ⟨hg, fun x hx => by
      obtain ⟨j, hj, rfl⟩ := List.getElem_of_mem hx
      exact hm j hj (by omega)⟩))))
  | d + 1, i, a, b, h, hg, hm => by
    have hlt : i < l.length := by omega
    refine Both.stepL (fun k => spec_KnownOf.l0.eq_2 ..) (Both.stepR (fun k => impl_KnownOf.l0.eq_2 ..) (Both.posL (by omega) (Both.posR (by omega) (Both.posL (by omega) (Both.posR (by omega) (Both.posL (by omega) (Both.posR (by omega) ?_)))))))
    rw [w1 i (by omega), rd_nat l i hlt]
    have hx := hw l[i] (List.getElem_mem hlt)
    obtain ⟨e1, e2⟩ := exact_good hx.1 hx.2
    obtain ⟨g, m1, m2⟩ := join_good hg e1
    refine Both.bindEL (spec_l10Join_eq ..) (Both.bindER rfl (Both.bindER (impl_joinKnown_eq ..) (knownOf_loop2 l hl hw d (i + 1) _ _ (by omega) g (fun j hj hji => ?_))))
    by_cases hj' : j = i
    · subst hj'; exact m2 _ e2
    · exact m1 _ (hm j hj (by omega))
theorem knownOf_good (l : List Int) (hl : l.length ≤ 1099511627776) : Both (fun r => r.2.2 = true → GoodK r.1 r.2.1 = true ∧ ∀ x ∈ l, Mt r.1 r.2.1 x) (fun k => spec_KnownOf.f k l) (fun k => impl_KnownOf.f k l) := by
  have bad : Both (fun r : Int × Int × Bool => r.2.2 = true → GoodK r.1 r.2.1 = true ∧ ∀ x ∈ l, Mt r.1 r.2.1 x) (fun k => spec_KnownOf.j0 k l true) (fun k => impl_KnownOf.j0 k l true) :=
    Both.stepL (fun k => spec_KnownOf.j0.eq_2 ..) (Both.stepR (fun k => impl_KnownOf.j0.eq_2 ..) (Both.ite (fun _ => Both.now _ (fun h => by cases h)) (fun hx => absurd rfl hx)))
  unfold spec_KnownOf.f impl_KnownOf.f
  refine Both.bindEL (spec_l1In_eq ..) (Both.bindER (impl_in_eq ..) (Both.ite (fun h => ?_) (fun _ => bad)))
  have h := In_true.1 h
  refine Both.bindL (l1All_ev 0 65535 l hl) (Both.bindR (areWords_ev l hl) ?_)
  cases ha : allIn 0 65535 l with
  | false => exact bad
  | true =>
    have hw : ∀ x ∈ l, 0 ≤ x ∧ x ≤ 65535 := fun x hx => In_true.1 (List.all_eq_true.1 ha x hx)
    have h0 : 0 < l.length := by omega
    have e := exact_good (hw l[0] (List.getElem_mem h0)).1 (hw l[0] (List.getElem_mem h0)).2
    refine Both.stepL (fun k => spec_KnownOf.j0.eq_2 ..) (Both.stepR (fun k => impl_KnownOf.j0.eq_2 ..) (Both.ite (fun hx => by cases hx) (fun _ => ?_)))
    have er : rd l 0 = l[0] := rd_nat l 0 h0
    rw [er]
    exact Both.posL (by omega) (Both.posR (by omega) (Both.bindER rfl ((knownOf_loop2 l hl hw l.length 0 _ _ (by omega) e.1 (fun j hj hji => by omega)).mono fun r hr _ => hr)))

theorem bl1_ok {l1 : List Int} (hb : Bytes l1) (t : List Int) (ht : t.length ≤ 100) (ok : Bool) (v m : Int) (h : ok = true → GoodK v m = true ∧ ∀ x ∈ t, Mt v m x) : ∀ (d i : Nat), i + d = t.length → Ev (fun k => laws_FnBits.l1 k l1 ok t (t.length : Int) (i : Int) v m) true
  | 0, i, hi => by
    refine Ev.step (fun k => laws_FnBits.l1.eq_2 ..) (Ev.neg (by omega) ?_)
    obtain ⟨⟨a, b, c, d⟩, e, _⟩ := drawJoinKnown_ok hb
    exact Ev.bind e <| Ev.bindE (impl_JoinKnown_eq ..) <| Ev.bindE (spec_JoinKnown_eq ..) <| Ev.pos (by simp) <| Ev.at_ (Ev.now _) (by simp)
  | d + 1, i, hi => by
    have hlt : i < t.length := by omega
    have ih := bl1_ok hb t ht ok v m h d (i + 1) (by omega)
    rw [← w1 i (by omega)] at ih
    refine Ev.step (fun k => laws_FnBits.l1.eq_2 ..) (Ev.pos (by omega) (Ev.pos (by omega) (Ev.pos (by omega) ?_)))
    by_cases hk : ok = true
    · obtain ⟨g, hm⟩ := h hk
      refine Ev.pos hk <| Ev.bindE (mayBe_mt g (x := rd t (i : Int)) (by rw [rd_nat t i hlt]; exact hm _ (List.getElem_mem hlt))) ?_
      exact Ev.pos rfl <| Ev.pos rfl ih
    · exact Ev.neg hk ih
theorem bj4_ok {l1 : List Int} (hb : Bytes l1) : Ev (fun k => laws_FnBits.j4 k l1) true := by
  refine Ev.step (fun k => laws_FnBits.j4.eq_2 ..) ?_
  obtain ⟨t, e, ht⟩ := drawKnownOf_ok hb
  obtain ⟨r, e1, e2, hr⟩ := knownOf_good t (by omega)
  refine Ev.bind e <| Ev.bind e2 <| Ev.bind e1 <| Ev.neg (by simp) ?_
  refine Ev.step (fun k => laws_FnBits.j5.eq_2 ..) (Ev.neg (by simp) ?_)
  exact bl1_ok hb t ht r.2.2 r.1 r.2.1 hr t.length 0 (by omega)
theorem b_idx {t i : Int} (h0 : 0 ≤ t) (h1 : t ≤ 1000002) (h2 : 0 ≤ i) (h3 : i ≤ 31) : 0 ≤ wrap64 (t + wrap64 (i * 31)) := by
  rw [wrap_id (i * 31) (by omega) (by omega), wrap_id _ (by omega) (by omega)]; omega
theorem bl0_ok {l1 : List Int} (hb : Bytes l1) {a b : Nat} {c d v m jv jm : Int} {ok : Bool} (ha : a < 65536) (hb' : b < 65536) (hab : a &&& b = 0) (hg1 : GoodK (a : Int) (b : Int) = true) (hg2 : GoodK c d = true) (hj : GoodK jv jm = true) (hjm : ∀ x, Mt (a : Int) (b : Int) x → Mt jv jm x)
    (hm : ok = true → GoodK v m = true) (hok : ∀ x, Mt (a : Int) (b : Int) x → Mt c d x → ok = true) (hmm : ok = true → ∀ x, Mt (a : Int) (b : Int) x → (Mt v m x ↔ Mt c d x)) (n : Int) (hn : n = ((2 ^ popc 16 b : Nat) : Int)) :
    ∀ (q i : Nat), i + q = 32 → Ev (fun k => laws_FnBits.l0 k l1 ok n (i : Int) (a : Int) (b : Int) c d v m jv jm) true
  | 0, i, hi => Ev.step (fun k => laws_FnBits.l0.eq_2 ..) (Ev.neg (by omega) (bj4_ok hb))
  | q + 1, i, hi => by
    have ih := bl0_ok hb ha hb' hab hg1 hg2 hj hjm hm hok hmm n hn q (i + 1) (by omega)
    rw [← w1 i (by omega)] at ih
    obtain ⟨t, e, t0, t1⟩ := numberOf_loop hb l1.length 0 0 (by omega) (by omega) (by omega)
    have hp := Nat.two_pow_pos (popc 16 b)
    have hpn : 0 < n := by omega
    obtain ⟨x0, x1⟩ := tmod_lt (b_idx t0 t1 (show 0 ≤ (i : Int) by omega) (show (i : Int) ≤ 31 by omega)) hpn
    refine Ev.step (fun k => laws_FnBits.l0.eq_2 ..) (Ev.pos (by omega) (Ev.bind e (Ev.neg (by omega) ?_)))
    obtain ⟨y, hy⟩ := Int.eq_ofNat_of_zero_le x0
    rw [hy] at x1 ⊢
    have e2 := numberAt_impl a b y hg1 hb' ha hab (by omega)
    obtain ⟨m0, m1⟩ := numM_match (n := y) ha hab
    generalize numM a b y = x at m0 m1 e2
    have hx : Mt (a : Int) (b : Int) (x : Int) := (Mt_nat hb' m0).2 m1
    refine Ev.bind e2 <| Ev.bindE (mayBe_mt hj (hjm _ hx)) <| Ev.bindE (mayBe_ok hg2 hx.1 hx.2.1) ?_
    refine Ev.pos rfl <| Ev.pos rfl <| Ev.pos rfl <| Ev.pos rfl ?_
    have next : ∀ f : Bool, f = (Go.bits .andNot .i64 (x : Int) d == c) → Ev (fun k => laws_FnBits.j3 k l1 ok n (i : Int) (x : Int) f false (a : Int) (b : Int) c d v m jv jm) true := by
      intro f hf
      refine Ev.step (fun k => laws_FnBits.j3.eq_2 ..) (Ev.neg (by simp) ?_)
      by_cases ho : ok = true
      · refine Ev.pos ho <| Ev.bindE (mayBe_ok (hm ho) hx.1 hx.2.1) <| Ev.pos rfl <| Ev.neg ?_ ih
        have hiff := hmm ho _ hx
        have : (Go.bits .andNot .i64 (x : Int) m == v) = (Go.bits .andNot .i64 (x : Int) d == c) := by
          rw [Bool.eq_iff_iff, beq_iff_eq, beq_iff_eq]
          exact ⟨fun h => (hiff.1 ⟨hx.1, hx.2.1, h⟩).2.2, fun h => (hiff.2 ⟨hx.1, hx.2.1, h⟩).2.2⟩
        show ¬ (((Go.bits .andNot .i64 (x : Int) m == v) != f) = true)
        rw [this, hf]; simp
      · exact Ev.neg ho ih
    by_cases hq : (Go.bits .andNot .i64 (x : Int) d == c) = true
    · refine Ev.pos hq ?_
      have ho := hok _ hx ⟨hx.1, hx.2.1, beq_iff_eq.1 hq⟩
      have e3 : (!ok) = false := by rw [ho]; rfl
      show Ev (fun k => laws_FnBits.j3 k l1 ok n (i : Int) (x : Int) (Go.bits .andNot .i64 (x : Int) d == c) (!ok) (a : Int) (b : Int) c d v m jv jm) true
      rw [e3]; exact next _ rfl
    · refine Ev.neg hq ?_
      exact next _ rfl
theorem FnBits : laws_FnBits.Pure := by
  intro l0 l1 _ y0 hw0 _ y1 hw1
  refine Ev.rounds ?_
  unfold laws_FnBits.f
  by_cases hlen : wrap64 ((l0.length : Int) + (l1.length : Int)) > 1048576
  · exact Ev.pos hlen (Ev.now _)
  refine Ev.neg hlen ?_
  obtain ⟨s0, s1⟩ := small_of hlen y0 y1
  have hb0 := bytes_of ⟨y0, hw0⟩ s0
  have hb1 := bytes_of ⟨y1, hw1⟩ s1
  obtain ⟨⟨a, b, c, d⟩, e, _⟩ := drawMeetKnown_ok hb0
  refine Ev.bind e ?_
  by_cases g : (GoodK a b && GoodK c d) = true
  · have g' := g
    rw [Bool.and_eq_true] at g'
    obtain ⟨v, m, ok, em, hm, hok, hmm⟩ := meet_good g'.1 g'.2
    obtain ⟨jg, jm1, _⟩ := join_good g'.1 g'.2
    have e1 : impl_MeetKnown.f a b c d = some (v, m, ok) := by rw [impl_MeetKnown_eq, if_pos g, em]
    have e2 : spec_MeetKnown.f a b c d = some (v, m, ok) := by rw [spec_MeetKnown_eq, if_pos g, em]
    have e3 := impl_JoinKnown_eq a b c d
    have e4 := spec_JoinKnown_eq a b c d
    rw [if_pos g] at e3 e4
    refine Ev.bindE e1 <| Ev.bindE e2 <| Ev.bindE e3 <| Ev.bindE e4 <| Ev.neg (by simp) <| Ev.neg (by simp) <| Ev.neg (by simp) ?_
    have hflag : (!((JoinK a b c d).1 == (JoinK a b c d).1) || (!((JoinK a b c d).2 == (JoinK a b c d).2))) = false := by simp
    show Ev (fun k => laws_FnBits.j0 k l1 ok true (!((JoinK a b c d).1 == (JoinK a b c d).1) || (!((JoinK a b c d).2 == (JoinK a b c d).2))) a b c d v m (JoinK a b c d).1 (JoinK a b c d).2) true
    rw [hflag]
    obtain ⟨a', b', ea, eb, ha, hb, hab⟩ := GoodK_nat g'.1
    refine Ev.step (fun k => laws_FnBits.j0.eq_2 ..) (Ev.neg (by simp) (Ev.pos rfl ?_))
    have ew : impl_WaysOf.f a b = some (((2 ^ popc 16 b' : Nat) : Int), true) := by
      rw [ea, eb]; exact impl_WaysOf_eq a' b' (by rw [← ea, ← eb]; exact g'.1) hb
    refine Ev.bindE ew <| Ev.pos rfl <| Ev.bindE (impl_GoodKnown_eq ..) <| Ev.pos jg ?_
    have fin : Ev (fun k => laws_FnBits.j1 k l1 ok ((2 ^ popc 16 b' : Nat) : Int) false a b c d v m (JoinK a b c d).1 (JoinK a b c d).2) true := by
      refine Ev.step (fun k => laws_FnBits.j1.eq_2 ..) (Ev.neg (by simp) ?_)
      subst ea eb
      exact bl0_ok hb1 ha hb hab g'.1 g'.2 jg jm1 hm hok hmm _ rfl 32 0 (by omega)
    by_cases ho : ok = true
    · refine Ev.pos ho <| Ev.bindE (impl_GoodKnown_eq ..) ?_
      have : (!(GoodK v m)) = false := by rw [hm ho]; rfl
      rw [this]; exact fin
    · exact Ev.neg ho fin
  · have e1 : impl_MeetKnown.f a b c d = some (0, 0, false) := by rw [impl_MeetKnown_eq, if_neg g]
    have e2 : spec_MeetKnown.f a b c d = some (0, 0, false) := by rw [spec_MeetKnown_eq, if_neg g]
    have e3 := impl_JoinKnown_eq a b c d
    have e4 := spec_JoinKnown_eq a b c d
    rw [if_neg g] at e3 e4
    refine Ev.bindE e1 <| Ev.bindE e2 <| Ev.bindE e3 <| Ev.bindE e4 <| Ev.neg (by simp) <| Ev.neg (by simp) <| Ev.neg (by simp) ?_
    exact Ev.step (fun k => laws_FnBits.j0.eq_2 ..) (Ev.neg (by simp) (Ev.neg (by simp) (bj4_ok hb1)))

end Go.Proofs.Ytggddmpomdpdjaa.Pure
