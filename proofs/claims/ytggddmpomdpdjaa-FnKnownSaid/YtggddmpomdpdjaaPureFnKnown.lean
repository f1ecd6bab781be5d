/- Proved here: the pure statement of the law FnKnown: what the printed functions compute answers true. Conditions: the statement's own bounds. -/
import Derived.Test.YtggddmpomdpdjaaPFKx2
import Derived.Test.YtggddmpomdpdjaaPFKx3
import Derived.Test.YtggddmpomdpdjaaPFKx4
import Derived.Test.YtggddmpomdpdjaaPFKx5
import Derived.Test.YtggddmpomdpdjaaPFKx6
import Derived.Test.YtggddmpomdpdjaaPFKx7
import Derived.Test.YtggddmpomdpdjaaPFKx8
import Derived.Test.YtggddmpomdpdjaaPFKx9
namespace Go.Proofs.Ytggddmpomdpdjaa.Pure
open Go Go.RowKit Go.Proofs.Ytggddmpomdpdjaa.PFK Go.Proofs.YtggddmpomdpdjaaW.PrintWords Go.Proofs.YtggddmpomdpdjaaW.PrintLast Go.Proofs.YtggddmpomdpdjaaW.PrintMore
set_option linter.unusedVariables false
set_option linter.unusedSimpArgs false
def In (a lo hi : Int) : Bool := decide (lo ≤ a) && decide (a ≤ hi)
theorem In_true {a lo hi : Int} : In a lo hi = true ↔ lo ≤ a ∧ a ≤ hi := by simp [In]
theorem In_false {a lo hi : Int} : In a lo hi = false ↔ ¬ (lo ≤ a ∧ a ≤ hi) := by rw [← In_true]; simp
theorem In_ite {a lo hi : Int} : (if a ≥ lo then some (decide (a ≤ hi)) else some false) = some (In a lo hi) := by
  unfold In; by_cases h : lo ≤ a <;> simp [h]
theorem spec_l1In_eq (a b c : Int) : spec_l1In.f a b c = some (In a b c) := by unfold spec_l1In.f; exact In_ite
theorem impl_in_eq (a b c : Int) : impl_in.f a b c = some (In a b c) := by unfold impl_in.f; exact In_ite
theorem spec_l1Word_eq (a : Int) : spec_l1Word.f a = some (In a 0 65535) := by unfold spec_l1Word.f; rw [spec_l1In_eq]; rfl
theorem impl_isWord_eq (a : Int) : impl_isWord.f a = some (In a 0 65535) := by unfold impl_isWord.f; rw [impl_in_eq]; rfl
def andn (a b : Nat) : Nat := a ^^^ (a &&& b)
theorem testBit_andn (a b i : Nat) : (andn a b).testBit i = (a.testBit i && !b.testBit i) := by
  unfold andn; rw [Nat.testBit_xor, Nat.testBit_and]; cases a.testBit i <;> cases b.testBit i <;> rfl
theorem andn_le (a b : Nat) : andn a b ≤ a := by
  have h : andn a b &&& a = andn a b := by
    apply Nat.eq_of_testBit_eq; intro i; rw [Nat.testBit_and, testBit_andn]; cases a.testBit i <;> cases b.testBit i <;> rfl
  rw [← h]; exact Nat.and_le_right
theorem wrap_i64_nat (n : Nat) (h : n < 9223372036854775808) : IntKind.i64.wrap (n : Int) = n := by
  rw [IntKind.wrap_i64]; omega
theorem ofInt_nat (n : Nat) : BitVec.ofInt 64 (n : Int) = BitVec.ofNat 64 n := BitVec.ofInt_natCast 64 n
theorem bits_and (a b : Nat) (ha : a < 9223372036854775808) (hb : b < 9223372036854775808) : Go.bits .and .i64 a b = ((a &&& b : Nat) : Int) := by
  show IntKind.i64.wrap (((BitVec.ofInt 64 (a : Int)) &&& (BitVec.ofInt 64 (b : Int))).toNat : Int) = _
  rw [ofInt_nat, ofInt_nat, BitVec.toNat_and, BitVec.toNat_ofNat, BitVec.toNat_ofNat, Nat.mod_eq_of_lt (by omega), Nat.mod_eq_of_lt (by omega)]
  exact wrap_i64_nat _ (Nat.lt_of_le_of_lt Nat.and_le_left ha)
theorem or_lt63 {a b : Nat} (ha : a < 9223372036854775808) (hb : b < 9223372036854775808) : a ||| b < 9223372036854775808 := Nat.or_lt_two_pow (n := 63) ha hb
theorem xor_lt63 {a b : Nat} (ha : a < 9223372036854775808) (hb : b < 9223372036854775808) : a ^^^ b < 9223372036854775808 := Nat.xor_lt_two_pow (n := 63) ha hb
theorem bits_or (a b : Nat) (ha : a < 9223372036854775808) (hb : b < 9223372036854775808) : Go.bits .or .i64 a b = ((a ||| b : Nat) : Int) := by
  show IntKind.i64.wrap (((BitVec.ofInt 64 (a : Int)) ||| (BitVec.ofInt 64 (b : Int))).toNat : Int) = _
  rw [ofInt_nat, ofInt_nat, BitVec.toNat_or, BitVec.toNat_ofNat, BitVec.toNat_ofNat, Nat.mod_eq_of_lt (by omega), Nat.mod_eq_of_lt (by omega)]
  exact wrap_i64_nat _ (or_lt63 ha hb)
theorem bits_xor (a b : Nat) (ha : a < 9223372036854775808) (hb : b < 9223372036854775808) : Go.bits .xor .i64 a b = ((a ^^^ b : Nat) : Int) := by
  show IntKind.i64.wrap (((BitVec.ofInt 64 (a : Int)) ^^^ (BitVec.ofInt 64 (b : Int))).toNat : Int) = _
  rw [ofInt_nat, ofInt_nat, BitVec.toNat_xor, BitVec.toNat_ofNat, BitVec.toNat_ofNat, Nat.mod_eq_of_lt (by omega), Nat.mod_eq_of_lt (by omega)]
  exact wrap_i64_nat _ (xor_lt63 ha hb)
theorem bits_andNot (a b : Nat) (ha : a < 9223372036854775808) (hb : b < 9223372036854775808) : Go.bits .andNot .i64 a b = ((andn a b : Nat) : Int) := by
  show IntKind.i64.wrap (((BitVec.ofInt 64 (a : Int)) &&& ~~~ (BitVec.ofInt 64 (b : Int))).toNat : Int) = _
  rw [ofInt_nat, ofInt_nat]
  have h : (BitVec.ofNat 64 a &&& ~~~ BitVec.ofNat 64 b).toNat = andn a b := by
    apply Nat.eq_of_testBit_eq; intro i
    rw [testBit_andn]
    by_cases hi : i < 64
    · rw [BitVec.testBit_toNat, BitVec.getLsbD_and, BitVec.getLsbD_not, BitVec.getLsbD_ofNat, BitVec.getLsbD_ofNat]
      simp [hi]
    · have h1 : a.testBit i = false := Nat.testBit_lt_two_pow (Nat.lt_of_lt_of_le ha (by have := Nat.pow_le_pow_right (show 0 < 2 by decide) (show 63 ≤ i by omega); omega))
      rw [h1, BitVec.testBit_toNat, BitVec.getLsbD_of_ge _ _ (by omega)]; rfl
  rw [h]
  exact wrap_i64_nat _ (Nat.lt_of_le_of_lt (andn_le a b) ha)
theorem and_zero_bit {a b : Nat} (h : a &&& b = 0) (i : Nat) : (a.testBit i && b.testBit i) = false := by rw [← Nat.testBit_and, h]; simp
theorem nat_of {x hi : Int} (h : In x 0 hi = true) : ∃ n : Nat, x = (n : Int) ∧ (n : Int) ≤ hi := by
  have h := In_true.1 h
  exact ⟨x.toNat, by omega, by omega⟩
theorem word_or {a b : Nat} (ha : a < 65536) (hb : b < 65536) : a ||| b < 65536 := Nat.or_lt_two_pow (n := 16) ha hb
theorem word_xor {a b : Nat} (ha : a < 65536) (hb : b < 65536) : a ^^^ b < 65536 := Nat.xor_lt_two_pow (n := 16) ha hb
theorem word_and {a b : Nat} (ha : a < 65536) : a &&& b < 65536 := Nat.lt_of_le_of_lt Nat.and_le_left ha
theorem word_andn {a b : Nat} (ha : a < 65536) : andn a b < 65536 := Nat.lt_of_le_of_lt (andn_le a b) ha
theorem Ev.pos {α : Type} {c : Prop} [Decidable c] {A B : Nat → Option α} {r : α} (h : c) (e : Ev A r) : Ev (fun k => if c then A k else B k) r := Ev.congr (fun _ => if_pos h) e
theorem Ev.neg {α : Type} {c : Prop} [Decidable c] {A B : Nat → Option α} {r : α} (h : ¬ c) (e : Ev B r) : Ev (fun k => if c then A k else B k) r := Ev.congr (fun _ => if_neg h) e
theorem Ev.bindE {α β : Type} {g : Option α} {f : Nat → α → Option β} {a : α} {r : β} (h : g = some a) (k : Ev (fun n => f n a) r) : Ev (fun n => g.bind (f n)) r := by subst h; exact k
theorem Ev.at_ {α : Type} {g : Nat → Option α} {r r' : α} (h : Ev g r) (e : r = r') : Ev g r' := e ▸ h
theorem Ev.one {α : Type} {g : Nat → Option α} {r r' : α} (h : Ev g r) (h' : Ev g r') : r = r' := by
  obtain ⟨K, h⟩ := h; obtain ⟨K', h'⟩ := h'
  have a := h (max K K') (by omega); have b := h' (max K K') (by omega)
  rw [a] at b; exact Option.some.inj b
def Both {α : Type} (P : α → Prop) (g f : Nat → Option α) : Prop := ∃ r, Ev g r ∧ Ev f r ∧ P r
theorem Both.now {α : Type} {P : α → Prop} (r : α) (h : P r) : Both P (fun _ => some r) (fun _ => some r) := ⟨r, Ev.now r, Ev.now r, h⟩
theorem Both.mono {α : Type} {P Q : α → Prop} {g f : Nat → Option α} (h : Both P g f) (hq : ∀ r, P r → Q r) : Both Q g f := by obtain ⟨r, a, b, c⟩ := h; exact ⟨r, a, b, hq r c⟩
theorem Both.congrL {α : Type} {P : α → Prop} {g g' f : Nat → Option α} (e : ∀ k, g k = g' k) (h : Both P g' f) : Both P g f := by obtain ⟨r, a, b, c⟩ := h; exact ⟨r, a.congr e, b, c⟩
theorem Both.congrR {α : Type} {P : α → Prop} {g f f' : Nat → Option α} (e : ∀ k, f k = f' k) (h : Both P g f') : Both P g f := by obtain ⟨r, a, b, c⟩ := h; exact ⟨r, a, b.congr e, c⟩
theorem Both.posL {α : Type} {P : α → Prop} {c : Prop} [Decidable c] {A B f : Nat → Option α} (h : c) (e : Both P A f) : Both P (fun k => if c then A k else B k) f := e.congrL (fun _ => if_pos h)
theorem Both.negL {α : Type} {P : α → Prop} {c : Prop} [Decidable c] {A B f : Nat → Option α} (h : ¬ c) (e : Both P B f) : Both P (fun k => if c then A k else B k) f := e.congrL (fun _ => if_neg h)
theorem Both.posR {α : Type} {P : α → Prop} {c : Prop} [Decidable c] {A B f : Nat → Option α} (h : c) (e : Both P f A) : Both P f (fun k => if c then A k else B k) := e.congrR (fun _ => if_pos h)
theorem Both.negR {α : Type} {P : α → Prop} {c : Prop} [Decidable c] {A B f : Nat → Option α} (h : ¬ c) (e : Both P f B) : Both P f (fun k => if c then A k else B k) := e.congrR (fun _ => if_neg h)
theorem Both.ite {α : Type} {P : α → Prop} {c : Prop} [Decidable c] {A B A' B' : Nat → Option α} (h1 : c → Both P A A') (h2 : ¬ c → Both P B B') : Both P (fun k => if c then A k else B k) (fun k => if c then A' k else B' k) := by
  by_cases h : c
  · exact ((h1 h).posL h).posR h
  · exact ((h2 h).negL h).negR h
theorem Both.stepL {α : Type} {P : α → Prop} {g g' f : Nat → Option α} (e : ∀ k, g (k + 1) = g' k) (h : Both P g' f) : Both P g f := by obtain ⟨r, a, b, c⟩ := h; exact ⟨r, a.step e, b, c⟩
theorem Both.stepR {α : Type} {P : α → Prop} {g f f' : Nat → Option α} (e : ∀ k, f (k + 1) = f' k) (h : Both P g f') : Both P g f := by obtain ⟨r, a, b, c⟩ := h; exact ⟨r, a, b.step e, c⟩
theorem Both.bindR {α β : Type} {P : β → Prop} {g : Nat → Option α} {F : Nat → α → Option β} {f : Nat → Option β} {a : α} (h : Ev g a) (e : Both P f (fun k => F k a)) : Both P f (fun k => (g k).bind (F k)) := by obtain ⟨r, x, y, c⟩ := e; exact ⟨r, x, Ev.bind h y, c⟩
theorem Both.bindEL {α β : Type} {P : β → Prop} {g : Option α} {F : Nat → α → Option β} {f : Nat → Option β} {a : α} (h : g = some a) (e : Both P (fun k => F k a) f) : Both P (fun k => g.bind (F k)) f := by subst h; exact e
theorem Both.bindER {α β : Type} {P : β → Prop} {g : Option α} {F : Nat → α → Option β} {f : Nat → Option β} {a : α} (h : g = some a) (e : Both P f (fun k => F k a)) : Both P f (fun k => g.bind (F k)) := by subst h; exact e
theorem w1 (i : Nat) (h : i < 4611686018427387904) : wrap64 ((i : Int) + 1) = ((i + 1 : Nat) : Int) := by unfold wrap64; omega
theorem wrap_id (x : Int) (h0 : -9223372036854775808 ≤ x) (h1 : x ≤ 9223372036854775807) : wrap64 x = x := by unfold wrap64; omega
theorem rd_nat (l : List Int) (i : Nat) (h : i < l.length) : rd l (i : Int) = l[i] := by unfold rd; simp [List.getD, h]
theorem u64_nat (i : Nat) (h : i < 9223372036854775808) : IntKind.u64.wrap (i : Int) = (i : Int) := by
  have : IntKind.u64.wrap (i : Int) = (i : Int) % 18446744073709551616 := by simp [IntKind.wrap, IntKind.bits, IntKind.signed]
  rw [this]; omega
theorem shl_one (n : Nat) (h : n ≤ 60) : shl .i64 1 (n : Int) = ((2 ^ n : Nat) : Int) := by
  have hb : IntKind.i64.bits = 64 := rfl
  unfold shl
  rw [Int.toNat_natCast, hb, Nat.min_eq_left (by omega), Int.one_mul]
  have h1 : 2 ^ n ≤ 2 ^ 60 := Nat.pow_le_pow_right (by decide) h
  have h2 : ((2 : Int) ^ n) = ((2 ^ n : Nat) : Int) := by rw [Int.natCast_pow]; rfl
  rw [h2]; exact wrap_i64_nat _ (by omega)
def GoodK (v m : Int) : Bool := In v 0 65535 && In m 0 65535 && (Go.bits .and .i64 v m == 0)
theorem spec_GoodKnown_eq (a b : Int) : spec_GoodKnown.f a b = some (GoodK a b) := by
  unfold spec_GoodKnown.f GoodK; simp only [spec_l1Word_eq, Option.bind_some]
  cases In a 0 65535 <;> cases In b 0 65535 <;> simp
theorem impl_GoodKnown_eq (a b : Int) : impl_GoodKnown.f a b = some (GoodK a b) := by
  unfold impl_GoodKnown.f GoodK; simp only [impl_isWord_eq, Option.bind_some]
  cases In a 0 65535 <;> cases In b 0 65535 <;> simp
theorem impl_bothKnown_eq (a b c d : Int) : impl_bothKnown.f a b c d = some (GoodK a b && GoodK c d) := by
  unfold impl_bothKnown.f; simp only [impl_GoodKnown_eq, Option.bind_some]; cases GoodK a b <;> simp
theorem spec_MayBe_eq (a b n : Int) : spec_MayBe.f a b n = some (if GoodK a b && In n 0 65535 then (Go.bits .andNot .i64 n b == a, true) else (false, false)) := by
  unfold spec_MayBe.f spec_l10May.f; simp only [spec_GoodKnown_eq, spec_l1Word_eq, Option.bind_some]
  cases GoodK a b <;> cases In n 0 65535 <;> simp
theorem impl_MayBe_eq (a b n : Int) : impl_MayBe.f a b n = some (if GoodK a b && In n 0 65535 then (Go.bits .andNot .i64 n b == a, true) else (false, false)) := by
  unfold impl_MayBe.f impl_Known_matches.f; simp only [impl_GoodKnown_eq, impl_isWord_eq, Option.bind_some]
  cases GoodK a b <;> cases In n 0 65535 <;> simp
def JoinK (a b c d : Int) : Int × Int := (Go.bits .andNot .i64 a (Go.bits .or .i64 (Go.bits .or .i64 b d) (Go.bits .xor .i64 a c)), Go.bits .or .i64 (Go.bits .or .i64 b d) (Go.bits .xor .i64 a c))
theorem impl_joinKnown_eq (a b c d : Int) : impl_joinKnown.f a b c d = some (JoinK a b c d) := rfl
theorem impl_JoinKnown_eq (a b c d : Int) : impl_JoinKnown.f a b c d = some (if GoodK a b && GoodK c d then ((JoinK a b c d).1, (JoinK a b c d).2, true) else (0, 0, false)) := by
  unfold impl_JoinKnown.f; simp only [impl_bothKnown_eq, impl_joinKnown_eq, Option.bind_some]; cases GoodK a b <;> cases GoodK c d <;> simp
theorem GoodK_nat {v m : Int} (h : GoodK v m = true) : ∃ a b : Nat, v = a ∧ m = b ∧ a < 65536 ∧ b < 65536 ∧ a &&& b = 0 := by
  unfold GoodK at h
  simp only [Bool.and_eq_true, beq_iff_eq] at h
  obtain ⟨⟨h1, h2⟩, h3⟩ := h
  obtain ⟨a, rfl, ha⟩ := nat_of h1
  obtain ⟨b, rfl, hb⟩ := nat_of h2
  rw [bits_and a b (by omega) (by omega)] at h3
  exact ⟨a, b, rfl, rfl, by omega, by omega, by omega⟩
theorem wrap_u64 (n : Int) : IntKind.u64.wrap n = n % 18446744073709551616 := by simp [IntKind.wrap, IntKind.bits, IntKind.signed]
theorem bitsU_and (a b : Nat) (ha : a < 18446744073709551616) (hb : b < 18446744073709551616) : Go.bits .and .u64 a b = ((a &&& b : Nat) : Int) := by
  show IntKind.u64.wrap (((BitVec.ofInt 64 (a : Int)) &&& (BitVec.ofInt 64 (b : Int))).toNat : Int) = _
  rw [ofInt_nat, ofInt_nat, BitVec.toNat_and, BitVec.toNat_ofNat, BitVec.toNat_ofNat, Nat.mod_eq_of_lt (by omega), Nat.mod_eq_of_lt (by omega), wrap_u64]
  have : a &&& b ≤ a := Nat.and_le_left
  omega
def stage (m s x : Nat) : Nat := ((x / s) &&& m) + (x &&& m)
def stages (x : Nat) : Nat :=
  let y := stage 3689348814741910323 4 (stage 6148914691236517205 2 x)
  (y / 16 + y) &&& 1085102592571150095
theorem onesCount_stages (x : Nat) (hx : x < 65536) : bits_OnesCount64.f x = some (Go.bits .and .i64 (wrap64 (IntKind.u64.wrap ((IntKind.u64.wrap ((IntKind.u64.wrap ((stages x : Int) + ((stages x : Nat) : Int) / 256)) + (IntKind.u64.wrap ((stages x : Int) + ((stages x : Nat) : Int) / 256)) / 65536)) + (IntKind.u64.wrap ((IntKind.u64.wrap ((stages x : Int) + ((stages x : Nat) : Int) / 256)) + (IntKind.u64.wrap ((stages x : Int) + ((stages x : Nat) : Int) / 256)) / 65536)) / 4294967296))) 127) := by
  have e1 : IntKind.u64.wrap ((Go.bits .and .u64 ((x : Int) / 2) 6148914691236517205) + (Go.bits .and .u64 (x : Int) 6148914691236517205)) = ((stage 6148914691236517205 2 x : Nat) : Int) := by
    have h1 : ((x : Int) / 2) = ((x / 2 : Nat) : Int) := by omega
    have h2 : (6148914691236517205 : Int) = ((6148914691236517205 : Nat) : Int) := rfl
    rw [h1, h2, bitsU_and _ _ (by omega) (by omega), bitsU_and _ _ (by omega) (by omega), wrap_u64]
    have k1 : (x / 2) &&& 6148914691236517205 ≤ x / 2 := Nat.and_le_left
    have k2 : x &&& 6148914691236517205 ≤ x := Nat.and_le_left
    unfold stage; omega
  have b1 : stage 6148914691236517205 2 x < 131072 := by
    have k1 : (x / 2) &&& 6148914691236517205 ≤ x / 2 := Nat.and_le_left
    have k2 : x &&& 6148914691236517205 ≤ x := Nat.and_le_left
    unfold stage; omega
  have e2 : IntKind.u64.wrap ((Go.bits .and .u64 (((stage 6148914691236517205 2 x : Nat) : Int) / 4) 3689348814741910323) + (Go.bits .and .u64 ((stage 6148914691236517205 2 x : Nat) : Int) 3689348814741910323)) = ((stage 3689348814741910323 4 (stage 6148914691236517205 2 x) : Nat) : Int) := by
    generalize stage 6148914691236517205 2 x = y at b1 ⊢
    have h1 : ((y : Int) / 4) = ((y / 4 : Nat) : Int) := by omega
    have h2 : (3689348814741910323 : Int) = ((3689348814741910323 : Nat) : Int) := rfl
    rw [h1, h2, bitsU_and _ _ (by omega) (by omega), bitsU_and _ _ (by omega) (by omega), wrap_u64]
    have k1 : (y / 4) &&& 3689348814741910323 ≤ y / 4 := Nat.and_le_left
    have k2 : y &&& 3689348814741910323 ≤ y := Nat.and_le_left
    unfold stage; omega
  have b2 : stage 3689348814741910323 4 (stage 6148914691236517205 2 x) < 262144 := by
    generalize stage 6148914691236517205 2 x = y at b1 ⊢
    have k1 : (y / 4) &&& 3689348814741910323 ≤ y / 4 := Nat.and_le_left
    have k2 : y &&& 3689348814741910323 ≤ y := Nat.and_le_left
    unfold stage; omega
  have e3 : Go.bits .and .u64 (IntKind.u64.wrap ((((stage 3689348814741910323 4 (stage 6148914691236517205 2 x) : Nat) : Int) / 16) + ((stage 3689348814741910323 4 (stage 6148914691236517205 2 x) : Nat) : Int))) 1085102592571150095 = ((stages x : Nat) : Int) := by
    unfold stages
    generalize stage 3689348814741910323 4 (stage 6148914691236517205 2 x) = y at b2 ⊢
    have h2 : (1085102592571150095 : Int) = ((1085102592571150095 : Nat) : Int) := rfl
    rw [wrap_u64, show ((y : Int) / 16 + y) % 18446744073709551616 = ((y / 16 + y : Nat) : Int) by omega, h2, bitsU_and _ _ (by omega) (by omega)]
  unfold bits_OnesCount64.f
  rw [e1, e2, e3]
def popc : Nat → Nat → Nat
  | 0, _ => 0
  | k + 1, x => x % 2 + popc k (x / 2)
def all16 (p : Nat → Bool) : Nat → Bool
  | 0 => true
  | n + 1 => p n && all16 p n
theorem all16_of {p : Nat → Bool} : ∀ {n : Nat}, all16 p n = true → ∀ i, i < n → p i = true
  | 0, _, i, hi => by omega
  | n + 1, h, i, hi => by
    simp only [all16, Bool.and_eq_true] at h
    rcases Nat.lt_or_eq_of_le (Nat.lt_succ_iff.1 hi) with h1 | h1
    · exact all16_of h.2 i h1
    · subst h1; exact h.1
theorem stages_split : all16 (fun h => all16 (fun l => Nat.beq (stages (256 * h + l)) (256 * popc 8 h + popc 8 l)) 256) 256 = true := by decide +kernel
theorem popc_le : ∀ (k x : Nat), popc k x ≤ k
  | 0, _ => Nat.le_refl 0
  | k + 1, x => by have := popc_le k (x / 2); unfold popc; omega
theorem popc_add : ∀ (j k x : Nat), popc (j + k) x = popc j x + popc k (x / 2 ^ j)
  | 0, k, x => by simp [popc]
  | j + 1, k, x => by
    rw [show j + 1 + k = (j + k) + 1 by omega]
    show x % 2 + popc (j + k) (x / 2) = x % 2 + popc j (x / 2) + popc k (x / 2 ^ (j + 1))
    rw [popc_add j k (x / 2), Nat.div_div_eq_div_mul, Nat.pow_succ, Nat.mul_comm (2 ^ j) 2, Nat.add_assoc]
theorem popc_mod : ∀ (k x y : Nat), popc k (2 ^ k * y + x) = popc k x
  | 0, _, _ => rfl
  | k + 1, x, y => by
    unfold popc
    have h : 2 ^ (k + 1) * y = 2 * (2 ^ k * y) := by rw [Nat.pow_succ, Nat.mul_comm (2 ^ k) 2, Nat.mul_assoc]
    rw [h, show (2 * (2 ^ k * y) + x) % 2 = x % 2 by omega, show (2 * (2 ^ k * y) + x) / 2 = 2 ^ k * y + x / 2 by omega, popc_mod k (x / 2) y]
theorem stages_word (x : Nat) (hx : x < 65536) : stages x = 256 * popc 8 (x / 256) + popc 8 (x % 256) := by
  have h1 := all16_of stages_split (x / 256) (by omega)
  have h2 := all16_of h1 (x % 256) (by omega)
  have h3 := Nat.eq_of_beq_eq_true h2
  rw [Nat.div_add_mod] at h3
  exact h3
theorem popc_word (x : Nat) : popc 16 x = popc 8 (x % 256) + popc 8 (x / 256) := by
  rw [show (16 : Nat) = 8 + 8 from rfl, popc_add 8 8 x]
  congr 1
  have := popc_mod 8 (x % 256) (x / 256)
  rw [show (2 : Nat) ^ 8 = 256 from rfl, Nat.div_add_mod] at this
  exact this
theorem onesCount64_eq (x : Nat) (hx : x < 65536) : bits_OnesCount64.f x = some ((popc 16 x : Nat) : Int) := by
  rw [onesCount_stages x hx, stages_word x hx, popc_word]
  have h1 := popc_le 8 (x / 256)
  have h2 := popc_le 8 (x % 256)
  generalize popc 8 (x / 256) = a at h1 ⊢
  generalize popc 8 (x % 256) = b at h2 ⊢
  have e1 : IntKind.u64.wrap (((256 * a + b : Nat) : Int) + ((256 * a + b : Nat) : Int) / 256) = ((256 * a + b + a : Nat) : Int) := by rw [wrap_u64]; omega
  have g2 : ∀ A : Nat, A < 65536 → IntKind.u64.wrap ((A : Int) + (A : Int) / 65536) = (A : Int) := fun A hA => by rw [wrap_u64]; omega
  have g3 : ∀ A : Nat, A < 65536 → IntKind.u64.wrap ((A : Int) + (A : Int) / 4294967296) = (A : Int) := fun A hA => by rw [wrap_u64]; omega
  have e2 := g2 (256 * a + b + a) (by omega)
  have e3 := g3 (256 * a + b + a) (by omega)
  rw [e1, e2, e3, wrap_id _ (by omega) (by omega), show (127 : Int) = ((127 : Nat) : Int) from rfl, bits_and _ _ (by omega) (by omega)]
  congr 2
  rw [show (127 : Nat) = 2 ^ 7 - 1 from rfl, Nat.and_two_pow_sub_one_eq_mod]
  omega
theorem onesCount_eq (x : Nat) (hx : x < 65536) : bits_OnesCount.f x = some ((popc 16 x : Nat) : Int) := by unfold bits_OnesCount.f; rw [onesCount64_eq x hx]; rfl
theorem impl_WaysOf_bad (a b : Int) (h : GoodK a b = false) : impl_WaysOf.f a b = some (0, false) := by
  unfold impl_WaysOf.f; rw [impl_GoodKnown_eq, h]; rfl
theorem impl_WaysOf_eq (a b : Nat) (h : GoodK a b = true) (hb : b < 65536) : impl_WaysOf.f a b = some (((2 ^ popc 16 b : Nat) : Int), true) := by
  unfold impl_WaysOf.f; rw [impl_GoodKnown_eq, h]
  have hu : IntKind.u64.wrap (b : Int) = (b : Int) := by rw [wrap_u64]; omega
  rw [hu, onesCount_eq b hb]
  have := popc_le 16 b
  simp only [Option.bind_some, if_true]
  rw [if_pos (by omega), shl_one _ (by omega)]
theorem spec_WaysOf_loop : ∀ (k x m : Nat), k ≤ 16 → x < 2 ^ k → m * 2 ^ k < 4611686018427387904 → Ev (fun q => spec_WaysOf.l0 q (m : Int) (x : Int)) (((m * 2 ^ popc k x : Nat) : Int), true)
  | 0, x, m, hk, hx, hm => by
    refine Ev.step (fun q => spec_WaysOf.l0.eq_2 ..) ?_
    have : x = 0 := by omega
    subst this
    refine Ev.neg (by omega) ?_
    simp only [popc, Nat.pow_zero, Nat.mul_one]; exact Ev.now _
  | k + 1, x, m, hk, hx, hm => by
    have hk2 : 2 ^ (k + 1) ≤ 2 ^ 16 := Nat.pow_le_pow_right (by decide) hk
    have h2 : 2 ^ (k + 1) = 2 * 2 ^ k := by rw [Nat.pow_succ, Nat.mul_comm]
    by_cases h0 : x = 0
    · subst h0
      refine Ev.step (fun q => spec_WaysOf.l0.eq_2 ..) (Ev.neg (by omega) ?_)
      have hz : ∀ k, popc k 0 = 0 := by intro k; induction k with
        | zero => rfl
        | succ k ih => unfold popc; rw [Nat.zero_div, ih]
      rw [hz]; simp only [Nat.pow_zero, Nat.mul_one]; exact Ev.now _
    · have hmk : m * 2 ^ k < 4611686018427387904 := by
        have : m * 2 ^ k ≤ m * 2 ^ (k + 1) := Nat.mul_le_mul_left _ (by omega)
        omega
      have hm1 : m ≤ m * 2 ^ (k + 1) := Nat.le_mul_of_pos_right _ (Nat.two_pow_pos _)
      have ht : Int.tmod (x : Int) 2 = ((x % 2 : Nat) : Int) := by rw [Int.tmod_eq_emod_of_nonneg (by omega)]; omega
      have hd : wrap64 (Int.tdiv (x : Int) 2) = ((x / 2 : Nat) : Int) := by rw [Int.tdiv_eq_ediv_of_nonneg (by omega), wrap_id _ (by omega) (by omega)]; omega
      refine Ev.step (fun q => spec_WaysOf.l0.eq_2 ..) (Ev.pos (by omega) ?_)
      rw [ht, hd]
      unfold popc
      by_cases h1 : x % 2 = 1
      · refine Ev.pos (by omega) ?_
        have hmm : (m * 2) * 2 ^ k = m * 2 ^ (k + 1) := by rw [h2, Nat.mul_assoc]
        rw [wrap_id _ (by omega) (by omega), show ((m : Int) * 2) = ((m * 2 : Nat) : Int) by omega]
        refine Ev.at_ (spec_WaysOf_loop k (x / 2) (m * 2) (by omega) (by omega) (by omega)) ?_
        rw [h1, Nat.pow_add, Nat.pow_one, Nat.mul_assoc]
      · refine Ev.neg (by omega) ?_
        refine Ev.at_ (spec_WaysOf_loop k (x / 2) m (by omega) (by omega) hmk) ?_
        rw [show x % 2 = 0 by omega, Nat.zero_add]
theorem spec_WaysOf_bad (a b : Int) (h : GoodK a b = false) : Ev (fun k => spec_WaysOf.f k a b) (0, false) := by
  unfold spec_WaysOf.f; exact Ev.bindE (spec_GoodKnown_eq a b) (Ev.neg (by rw [h]; simp) (Ev.now _))
theorem spec_WaysOf_ev (a b : Nat) (h : GoodK a b = true) (hb : b < 65536) : Ev (fun k => spec_WaysOf.f k a b) (((2 ^ popc 16 b : Nat) : Int), true) := by
  unfold spec_WaysOf.f
  refine Ev.bindE (spec_GoodKnown_eq a b) (Ev.pos h ?_)
  have := spec_WaysOf_loop 16 b 1 (by omega) (by omega) (by decide)
  rw [Nat.one_mul] at this
  exact this
theorem and_pow (m j : Nat) : m &&& 2 ^ j = if m.testBit j = true then 2 ^ j else 0 := by
  apply Nat.eq_of_testBit_eq
  intro i
  rw [Nat.testBit_and]
  by_cases h : i = j
  · subst h
    by_cases hb : m.testBit i = true
    · rw [if_pos hb, hb, Nat.testBit_two_pow_self]; rfl
    · rw [if_neg hb]; simp only [Bool.not_eq_true] at hb; rw [hb, Nat.zero_testBit]; rfl
  · rw [Nat.testBit_two_pow_of_ne (by omega), Bool.and_false]
    split
    · rw [Nat.testBit_two_pow_of_ne (by omega)]
    · rw [Nat.zero_testBit]
theorem or_add {a p : Nat} (ha : a < 65536) (hp : p < 65536) (hz : a &&& p = 0) : a + p = a ||| p := by
  have := BitVec.add_eq_or_of_and_eq_zero (BitVec.ofNat 64 a) (BitVec.ofNat 64 p) (by
    apply BitVec.eq_of_toNat_eq
    rw [BitVec.toNat_and, BitVec.toNat_ofNat, BitVec.toNat_ofNat, Nat.mod_eq_of_lt (by omega), Nat.mod_eq_of_lt (by omega), hz]; rfl)
  have := congrArg BitVec.toNat this
  rw [BitVec.toNat_add, BitVec.toNat_or, BitVec.toNat_ofNat, BitVec.toNat_ofNat, Nat.mod_eq_of_lt (show a < 2 ^ 64 by omega), Nat.mod_eq_of_lt (show p < 2 ^ 64 by omega), Nat.mod_eq_of_lt (by omega)] at this
  exact this
theorem add_orp {a p : Nat} (ha : a < 65536) (hp : p ≤ 32768) (hz : a &&& p = 0) : a + p = a ||| p := or_add ha (by omega) hz
theorem pow15 {j : Nat} (hj : j < 16) : 2 ^ j ≤ 32768 := Nat.pow_le_pow_right (n := 2) (show 2 > 0 by decide) (show j ≤ 15 by omega)
theorem pow16 {j : Nat} (hj : j ≤ 16) : 2 ^ j ≤ 65536 := Nat.pow_le_pow_right (n := 2) (show 2 > 0 by decide) hj
theorem add_or {a j : Nat} (ha : a < 65536) (hj : j < 16) (h : a.testBit j = false) : a + 2 ^ j = a ||| 2 ^ j :=
  add_orp ha (pow15 hj) (by rw [and_pow, h]; simp)
theorem or_ltp {a p : Nat} (ha : a < 65536) (hp : p ≤ 32768) : a ||| p < 65536 := word_or ha (by omega)
def deposit (m : Nat) : Nat → Nat → Nat → Nat → Nat
  | 0, _, _, out => out
  | d + 1, j, n, out => if m.testBit j = true then deposit m d (j + 1) (n / 2) (out + n % 2 * 2 ^ j) else deposit m d (j + 1) n out
section
variable {v m n out p : Nat} {r : Int} {r2 : Int × Bool}
theorem na_skipS (hm : m < 65536) (hp : 0 < p) (hp2 : p ≤ 32768) (hz : m &&& p = 0) (h : Ev (fun q => spec_l10At.l0 q (n : Int) (out : Int) ((p * 2 : Nat) : Int) (v : Int) (m : Int)) r) : Ev (fun q => spec_l10At.l0 q (n : Int) (out : Int) ((p : Nat) : Int) (v : Int) (m : Int)) r := by
  have ha : Go.bits .and .i64 (m : Int) ((p : Nat) : Int) = ((m &&& p : Nat) : Int) := bits_and _ _ (by omega) (by omega)
  have hw : wrap64 (((p : Nat) : Int) * 2) = ((p * 2 : Nat) : Int) := by rw [wrap_id _ (by omega) (by omega)]; omega
  refine Ev.step (fun q => spec_l10At.l0.eq_2 ..) (Ev.pos (by omega) <| Ev.pos (by rw [ha, hz]; rfl) ?_)
  rw [hw]; exact h
theorem na_skipI (hm : m < 65536) (hp : 0 < p) (hp2 : p ≤ 32768) (hz : m &&& p = 0) (h : Ev (fun q => impl_NumberAt.l0 q (n : Int) (out : Int) ((p * 2 : Nat) : Int) (v : Int) (m : Int)) r2) : Ev (fun q => impl_NumberAt.l0 q (n : Int) (out : Int) ((p : Nat) : Int) (v : Int) (m : Int)) r2 := by
  have ha : Go.bits .and .i64 (m : Int) ((p : Nat) : Int) = ((m &&& p : Nat) : Int) := bits_and _ _ (by omega) (by omega)
  have hw : wrap64 (((p : Nat) : Int) * 2) = ((p * 2 : Nat) : Int) := by rw [wrap_id _ (by omega) (by omega)]; omega
  refine Ev.step (fun q => impl_NumberAt.l0.eq_2 ..) (Ev.pos (by omega) <| Ev.pos (by rw [ha, hz]; rfl) ?_)
  rw [hw]; exact h
theorem na_takeS (hm : m < 65536) (hp : 0 < p) (hp2 : p ≤ 32768) (hz : m &&& p = p) (ho : out < 65536) (hn : n < 4294967296) (hor : out + p = out ||| p)
    (h : Ev (fun q => spec_l10At.l0 q ((n / 2 : Nat) : Int) ((out + n % 2 * p : Nat) : Int) ((p * 2 : Nat) : Int) (v : Int) (m : Int)) r) : Ev (fun q => spec_l10At.l0 q (n : Int) (out : Int) ((p : Nat) : Int) (v : Int) (m : Int)) r := by
  have ha : Go.bits .and .i64 (m : Int) ((p : Nat) : Int) = ((m &&& p : Nat) : Int) := bits_and _ _ (by omega) (by omega)
  have hw : wrap64 (((p : Nat) : Int) * 2) = ((p * 2 : Nat) : Int) := by rw [wrap_id _ (by omega) (by omega)]; omega
  have ht : Int.tmod (n : Int) 2 = ((n % 2 : Nat) : Int) := by rw [Int.tmod_eq_emod_of_nonneg (by omega)]; omega
  have hd : wrap64 (Int.tdiv (n : Int) 2) = ((n / 2 : Nat) : Int) := by rw [Int.tdiv_eq_ediv_of_nonneg (by omega), wrap_id _ (by omega) (by omega)]; omega
  refine Ev.step (fun q => spec_l10At.l0.eq_2 ..) (Ev.pos (by omega) <| Ev.neg (by rw [ha, hz]; omega) ?_)
  rcases Nat.mod_two_eq_zero_or_one n with h0 | h0
  · rw [h0, Nat.zero_mul, Nat.add_zero] at h
    refine Ev.neg (by rw [ht]; omega) ?_
    rw [hw, hd]; exact h
  · rw [h0, Nat.one_mul, hor] at h
    refine Ev.pos (by rw [ht]; omega) ?_
    rw [hw, hd, bits_or _ _ (by omega) (by omega)]; exact h
theorem na_takeI (hm : m < 65536) (hp : 0 < p) (hp2 : p ≤ 32768) (hz : m &&& p = p) (ho : out < 65536) (hn : n < 4294967296)
    (h : Ev (fun q => impl_NumberAt.l0 q ((n / 2 : Nat) : Int) ((out + n % 2 * p : Nat) : Int) ((p * 2 : Nat) : Int) (v : Int) (m : Int)) r2) : Ev (fun q => impl_NumberAt.l0 q (n : Int) (out : Int) ((p : Nat) : Int) (v : Int) (m : Int)) r2 := by
  have ha : Go.bits .and .i64 (m : Int) ((p : Nat) : Int) = ((m &&& p : Nat) : Int) := bits_and _ _ (by omega) (by omega)
  have hw : wrap64 (((p : Nat) : Int) * 2) = ((p * 2 : Nat) : Int) := by rw [wrap_id _ (by omega) (by omega)]; omega
  have ht : Int.tmod (n : Int) 2 = ((n % 2 : Nat) : Int) := by rw [Int.tmod_eq_emod_of_nonneg (by omega)]; omega
  have hd : wrap64 (Int.tdiv (n : Int) 2) = ((n / 2 : Nat) : Int) := by rw [Int.tdiv_eq_ediv_of_nonneg (by omega), wrap_id _ (by omega) (by omega)]; omega
  have hs : wrap64 ((out : Int) + wrap64 (((n % 2 : Nat) : Int) * ((p : Nat) : Int))) = ((out + n % 2 * p : Nat) : Int) := by
    rcases Nat.mod_two_eq_zero_or_one n with h0 | h0
    · rw [h0, Nat.zero_mul, show ((0 : Nat) : Int) * (p : Int) = 0 by simp]; unfold wrap64; omega
    · rw [h0, Nat.one_mul, show ((1 : Nat) : Int) * (p : Int) = (p : Int) by simp, wrap_id (p : Int) (by omega) (by omega), wrap_id _ (by omega) (by omega)]; omega
  refine Ev.step (fun q => impl_NumberAt.l0.eq_2 ..) (Ev.pos (by omega) <| Ev.neg (by rw [ha, hz]; omega) ?_)
  rw [hw, hd, ht, hs]; exact h
end
theorem numberAt_loop (v m : Nat) (hm : m < 65536) : ∀ (d j n out : Nat), j + d = 16 → out < 65536 → n < 4294967296 → (∀ i, j ≤ i → m.testBit i = true → out.testBit i = false) →
    Ev (fun q => spec_l10At.l0 q (n : Int) (out : Int) ((2 ^ j : Nat) : Int) (v : Int) (m : Int)) ((deposit m d j n out : Nat) : Int) ∧ Ev (fun q => impl_NumberAt.l0 q (n : Int) (out : Int) ((2 ^ j : Nat) : Int) (v : Int) (m : Int)) (((deposit m d j n out : Nat) : Int), true)
  | 0, j, n, out, hj, ho, hn, hi => by
    obtain rfl : j = 16 := by omega
    exact ⟨Ev.step (fun q => spec_l10At.l0.eq_2 ..) (Ev.neg (by decide) (Ev.now _)), Ev.step (fun q => impl_NumberAt.l0.eq_2 ..) (Ev.neg (by decide) (Ev.now _))⟩
  | d + 1, j, n, out, hj, ho, hn, hi => by
    have hpl : 2 ^ j ≤ 32768 := pow15 (by omega)
    have hpos := Nat.two_pow_pos j
    have hps : 2 ^ (j + 1) = 2 ^ j * 2 := Nat.pow_succ 2 j
    have hz := and_pow m j
    unfold deposit
    by_cases hb : m.testBit j = true
    · rw [if_pos hb] at hz ⊢
      have hob := hi j (Nat.le_refl _) hb
      have hor := add_or ho (by omega) hob
      have hlt : out ||| 2 ^ j < 65536 := or_ltp ho hpl
      have hn2 : n / 2 < 4294967296 := by omega
      have hi1 : ∀ i, j + 1 ≤ i → m.testBit i = true → (out + n % 2 * 2 ^ j).testBit i = false := by
        intro i h h'
        rcases Nat.mod_two_eq_zero_or_one n with h0 | h0
        · rw [h0, Nat.zero_mul, Nat.add_zero]; exact hi i (by omega) h'
        · rw [h0, Nat.one_mul, hor, Nat.testBit_or, hi i (by omega) h', Nat.testBit_two_pow_of_ne (by omega)]; rfl
      have ho1 : out + n % 2 * 2 ^ j < 65536 := by
        rcases Nat.mod_two_eq_zero_or_one n with h0 | h0
        · rw [h0, Nat.zero_mul, Nat.add_zero]; exact ho
        · rw [h0, Nat.one_mul, hor]; exact hlt
      have hrec := numberAt_loop v m hm d (j + 1) (n / 2) (out + n % 2 * 2 ^ j) (by omega) ho1 hn2 hi1
      generalize deposit m d (j + 1) (n / 2) (out + n % 2 * 2 ^ j) = D at hrec ⊢
      rw [hps] at hrec
      exact ⟨na_takeS hm hpos hpl hz ho hn hor hrec.1, na_takeI hm hpos hpl hz ho hn hrec.2⟩
    · rw [if_neg hb] at hz ⊢
      have hrec := numberAt_loop v m hm d (j + 1) n out (by omega) ho hn (fun i h => hi i (by omega))
      rw [hps] at hrec
      exact ⟨na_skipS hm hpos hpl hz hrec.1, na_skipI hm hpos hpl hz hrec.2⟩
def numM (v m n : Nat) : Nat := deposit m 16 0 n v
theorem numberAt_bad (a b n : Int) (h : GoodK a b = false) : Ev (fun k => spec_NumberAt.f k a b n) (0, false) ∧ Ev (fun k => impl_NumberAt.f k a b n) (0, false) := by
  constructor
  · unfold spec_NumberAt.f; exact Ev.bind (spec_WaysOf_bad a b h) (Ev.neg (by simp) (Ev.now _))
  · unfold impl_NumberAt.f
    refine Ev.bindE (impl_WaysOf_bad a b h) (Ev.neg (by simp) ?_)
    exact Ev.step (fun k => impl_NumberAt.j0.eq_2 ..) (Ev.pos rfl (Ev.now _))
theorem numberAt_out (a b : Nat) (n : Int) (h : GoodK a b = true) (hb : b < 65536) (hn : ¬ (0 ≤ n ∧ n < ((2 ^ popc 16 b : Nat) : Int))) : Ev (fun k => spec_NumberAt.f k a b n) (0, false) ∧ Ev (fun k => impl_NumberAt.f k a b n) (0, false) := by
  have hp2 := pow16 (popc_le 16 b)
  have hp3 := Nat.two_pow_pos (popc 16 b)
  have e1 := spec_WaysOf_ev a b h hb
  have e2 := impl_WaysOf_eq a b h hb
  generalize 2 ^ popc 16 b = P at hn hp2 hp3 e1 e2
  have hf : In n 0 ((P : Int) - 1) = false := by rw [In_false]; omega
  constructor
  · unfold spec_NumberAt.f
    refine Ev.bind e1 (Ev.pos rfl ?_)
    rw [wrap_id _ (by omega) (by omega)]
    exact Ev.bindE (spec_l1In_eq ..) (Ev.neg (by rw [hf]; simp) (Ev.now _))
  · unfold impl_NumberAt.f
    refine Ev.bindE e2 (Ev.pos rfl ?_)
    rw [wrap_id _ (by omega) (by omega)]
    refine Ev.bindE (impl_in_eq ..) ?_
    rw [hf]
    exact Ev.step (fun k => impl_NumberAt.j0.eq_2 ..) (Ev.pos rfl (Ev.now _))
theorem numberAt_in (a b n : Nat) (h : GoodK a b = true) (hb : b < 65536) (ha : a < 65536) (hab : a &&& b = 0) (hn : n < 2 ^ popc 16 b) : Ev (fun k => spec_NumberAt.f k a b (n : Int)) (((numM a b n : Nat) : Int), true) ∧ Ev (fun k => impl_NumberAt.f k a b (n : Int)) (((numM a b n : Nat) : Int), true) := by
  have hp2 := pow16 (popc_le 16 b)
  have e1 := spec_WaysOf_ev a b h hb
  have e2 := impl_WaysOf_eq a b h hb
  generalize 2 ^ popc 16 b = P at hn hp2 e1 e2
  have hf : In (n : Int) 0 ((P : Int) - 1) = true := by rw [In_true]; omega
  obtain ⟨h1, h2⟩ := numberAt_loop a b hb 16 0 n a (by omega) ha (by omega) (fun i _ hi => by have := and_zero_bit hab i; rw [hi] at this; simpa using this)
  constructor
  · unfold spec_NumberAt.f
    refine Ev.bind e1 (Ev.pos rfl ?_)
    rw [wrap_id _ (by omega) (by omega)]
    refine Ev.bindE (spec_l1In_eq ..) (Ev.pos hf (Ev.bind ?_ (Ev.now _)))
    unfold spec_l10At.f
    exact h1
  · unfold impl_NumberAt.f
    refine Ev.bindE e2 (Ev.pos rfl ?_)
    rw [wrap_id _ (by omega) (by omega)]
    refine Ev.bindE (impl_in_eq ..) ?_
    rw [hf]
    exact Ev.step (fun k => impl_NumberAt.j0.eq_2 ..) (Ev.neg (by simp) h2)
theorem tmod_word (x : Int) : (0 ≤ x ∧ Int.tmod x 65536 = x % 65536) ∨ (x < 0 ∧ Int.tmod x 65536 = -((-x) % 65536)) := by
  by_cases h : 0 ≤ x
  · exact Or.inl ⟨h, Int.tmod_eq_emod_of_nonneg h⟩
  · refine Or.inr ⟨by omega, ?_⟩
    have := Int.neg_tmod (-x) 65536
    rw [Int.neg_neg] at this
    rw [this, Int.tmod_eq_emod_of_nonneg (by omega)]
theorem word_wrap (x : Int) : Int.tmod (wrap64 ((Int.tmod x 65536) + 65536)) 65536 = x % 65536 := by
  rcases tmod_word x with ⟨h, e⟩ | ⟨h, e⟩
  · rw [e, wrap_id _ (by omega) (by omega), Int.tmod_eq_emod_of_nonneg (by omega)]; omega
  · rw [e, wrap_id _ (by omega) (by omega), Int.tmod_eq_emod_of_nonneg (by omega)]; omega
theorem bits_word (x : Int) : Go.bits .and .i64 x 65535 = x % 65536 := by
  show IntKind.i64.wrap (((BitVec.ofInt 64 x) &&& (BitVec.ofInt 64 65535)).toNat : Int) = _
  rw [BitVec.toNat_and, BitVec.toNat_ofInt, show (BitVec.ofInt 64 65535).toNat = 2 ^ 16 - 1 by decide, Nat.and_two_pow_sub_one_eq_mod]
  generalize h : (x % ((2 ^ 64 : Nat) : Int)).toNat = n
  rw [wrap_i64_nat _ (by omega)]
  omega
theorem wrap_i64 (y : Int) : IntKind.i64.wrap y = wrap64 y := by
  rw [IntKind.wrap_i64]; unfold wrap64; omega
theorem shl_nat (x : Int) (n : Nat) (h : n ≤ 60) : shl .i64 x (n : Int) = wrap64 (x * ((2 ^ n : Nat) : Int)) := by
  unfold shl
  have e : min (n : Int).toNat IntKind.i64.bits = n := by
    show min (n : Int).toNat 64 = n
    omega
  rw [e, Int.natCast_pow]
  exact wrap_i64 _
theorem shr_nat (x : Int) (n : Nat) (h : n ≤ 60) : shr .i64 x (n : Int) = x / ((2 ^ n : Nat) : Int) := by
  unfold shr
  have e : min (n : Int).toNat IntKind.i64.bits = n := by
    show min (n : Int).toNat 64 = n
    omega
  rw [e, Int.natCast_pow]; rfl
theorem mul_word {a b : Int} (h0 : 0 ≤ a) (h1 : a ≤ 65535) (h2 : 0 ≤ b) (h3 : b ≤ 65535) : 0 ≤ a * b ∧ a * b ≤ 4294836225 := ⟨Int.mul_nonneg h0 h2, Int.mul_le_mul h1 h3 h2 (by omega)⟩
theorem spec_l1Wrap_eq (x : Int) : spec_l1Wrap.f x = some (x % 65536) := by unfold spec_l1Wrap.f; rw [word_wrap]
theorem impl_WordOf_eq (x : Int) : impl_WordOf.f x = some (x % 65536) := by unfold impl_WordOf.f; rw [bits_word]
theorem shift_lo {b : Int} (h0 : 0 ≤ b) (h1 : b ≤ 65535) : ∃ n : Nat, n < 16 ∧ Int.tmod b 16 = (n : Int) ∧ IntKind.u64.wrap (Int.tmod b 16) = (n : Int) := by
  refine ⟨(b % 16).toNat, by omega, ?_, ?_⟩
  · rw [Int.tmod_eq_emod_of_nonneg h0]; omega
  · rw [Int.tmod_eq_emod_of_nonneg h0, show IntKind.u64.wrap (b % 16) = b % 16 from ?_]
    · omega
    · obtain ⟨m, hm⟩ := Int.eq_ofNat_of_zero_le (show 0 ≤ b % 16 by omega)
      rw [hm]; exact u64_nat m (by omega)
theorem pow_word {n : Nat} (h : n < 16) : 1 ≤ ((2 ^ n : Nat) : Int) ∧ ((2 ^ n : Nat) : Int) ≤ 32768 := by
  have h1 : 2 ^ n ≤ 32768 := Nat.pow_le_pow_right (n := 2) (show 2 > 0 by decide) (show n ≤ 15 by omega)
  have h2 := Nat.two_pow_pos n
  generalize 2 ^ n = p at h1 h2 ⊢
  omega
theorem impl_isOp_eq (o : Int) : impl_isOp.f o = some (In o 1 10) := by unfold impl_isOp.f; rw [impl_in_eq]; rfl
theorem do_eq (o a b : Int) (h0 : 0 ≤ b) (h1 : b ≤ 65535) : impl_do.f o a b = spec_l1Do.f o a b := by
  obtain ⟨n, hn, t1, t2⟩ := shift_lo h0 h1
  unfold impl_do.f spec_l1Do.f
  rw [t2, t1]
  simp only [impl_WordOf_eq, spec_l1Wrap_eq]
theorem spec_l1Do_some (o a b : Int) (h0 : 0 ≤ b) (h1 : b ≤ 65535) : ∃ r, spec_l1Do.f o a b = some r := by
  obtain ⟨n, hn, t1, t2⟩ := shift_lo h0 h1
  unfold spec_l1Do.f
  rw [t2]
  simp only [spec_l1Wrap_eq]
  repeat (first | exact ⟨_, rfl⟩ | split)
  all_goals omega
def mayN (v m x : Nat) : Nat := if x = 1 then v ||| m else andn 65535 v
theorem mayN_lt {v m x : Nat} (hv : v < 65536) (hm : m < 65536) : mayN v m x < 65536 := by
  unfold mayN; split
  · exact word_or hv hm
  · exact word_andn (by omega)
theorem may_eq (v m x : Nat) (hx : x < 2) (hv : v < 65536) (hm : m < 65536) : impl_Known_may.f v m x = some ((mayN v m x : Nat) : Int) := by
  unfold impl_Known_may.f mayN
  rw [bits_or v m (by omega) (by omega), show (65535 : Int) = ((65535 : Nat) : Int) from rfl, bits_andNot 65535 v (by omega) (by omega)]
  by_cases h : x = 1
  · rw [if_pos (by omega), if_pos h]
  · rw [if_neg (by omega), if_neg h]
theorem bw_step {o : Int} {v m w n z s x y t : Nat} {r : Int × Int} (hx : x < 2) (hy : y < 2) (hv : v < 65536) (hm : m < 65536) (hw : w < 65536) (hn : n < 65536) (hz : z < 65536) (hs : s < 65536) (ht : impl_do.f o x y = some (t : Int))
    (h : Ev (fun k => impl_bitwise.l1 k o ((if t = 1 then z else z ||| (mayN v m x &&& mayN w n y) : Nat) : Int) ((if t = 1 then s ||| (mayN v m x &&& mayN w n y) else s : Nat) : Int) x x ((y + 1 : Nat) : Int) v m w n) r) :
    Ev (fun k => impl_bitwise.l1 k o z s x x y v m w n) r := by
  have h1 := mayN_lt (x := x) hv hm
  have h2 := mayN_lt (x := y) hw hn
  have h3 := word_and (b := mayN w n y) h1
  refine Ev.step (fun k => impl_bitwise.l1.eq_2 ..) (Ev.pos (by omega) <| Ev.bindE (may_eq v m x hx hv hm) <| Ev.bindE (may_eq w n y hy hw hn) <| Ev.bindE ht ?_)
  have e : wrap64 ((y : Int) + 1) = ((y + 1 : Nat) : Int) := w1 y (by omega)
  by_cases h1 : t = 1
  · refine Ev.pos (by omega) ?_
    rw [if_pos h1, if_pos h1] at h
    rw [e, bits_and _ _ (by omega) (by omega), bits_or _ _ (by omega) (by omega)]; exact h
  · refine Ev.neg (by omega) ?_
    rw [if_neg h1, if_neg h1] at h
    rw [e, bits_and _ _ (by omega) (by omega), bits_or _ _ (by omega) (by omega)]; exact h
def bwZ (t z b : Nat) : Nat := if t = 1 then z else z ||| b
def bwS (t s b : Nat) : Nat := if t = 1 then s ||| b else s
theorem bwZ_lt {t z b : Nat} (hz : z < 65536) (hb : b < 65536) : bwZ t z b < 65536 := by
  unfold bwZ; split
  · exact hz
  · exact word_or hz hb
theorem bwS_lt {t z b : Nat} (hz : z < 65536) (hb : b < 65536) : bwS t z b < 65536 := by
  unfold bwS; split
  · exact word_or hz hb
  · exact hz
theorem bw_row {o : Int} {v m w n z s x t0 t1 : Nat} {r : Int × Int} (hx : x < 2) (hv : v < 65536) (hm : m < 65536) (hw : w < 65536) (hn : n < 65536) (hz : z < 65536) (hs : s < 65536) (h0 : impl_do.f o x 0 = some (t0 : Int)) (h1 : impl_do.f o x 1 = some (t1 : Int))
    (h : Ev (fun k => impl_bitwise.l0 k o ((bwZ t1 (bwZ t0 z (mayN v m x &&& mayN w n 0)) (mayN v m x &&& mayN w n 1) : Nat) : Int) ((bwS t1 (bwS t0 s (mayN v m x &&& mayN w n 0)) (mayN v m x &&& mayN w n 1) : Nat) : Int) ((x + 1 : Nat) : Int) v m w n) r) :
    Ev (fun k => impl_bitwise.l0 k o z s x v m w n) r := by
  refine Ev.step (fun k => impl_bitwise.l0.eq_2 ..) (Ev.pos (by omega) ?_)
  have a0 := word_and (b := mayN w n 0) (mayN_lt (x := x) hv hm)
  refine bw_step (y := 0) hx (by decide) hv hm hw hn hz hs h0 ?_
  refine bw_step (y := 1) hx (by decide) hv hm hw hn (bwZ_lt (t := t0) hz a0) (bwS_lt (t := t0) hs a0) h1 ?_
  refine Ev.step (fun k => impl_bitwise.l1.eq_2 ..) (Ev.neg (by decide) ?_)
  rw [w1 x (by omega)]
  exact h
theorem bw_ev {o : Int} {v m w n t0 t1 t2 t3 : Nat} (hv : v < 65536) (hm : m < 65536) (hw : w < 65536) (hn : n < 65536) (h0 : impl_do.f o 0 0 = some (t0 : Int)) (h1 : impl_do.f o 0 1 = some (t1 : Int)) (h2 : impl_do.f o 1 0 = some (t2 : Int)) (h3 : impl_do.f o 1 1 = some (t3 : Int)) :
    let b0 := mayN v m 0 &&& mayN w n 0; let b1 := mayN v m 0 &&& mayN w n 1; let b2 := mayN v m 1 &&& mayN w n 0; let b3 := mayN v m 1 &&& mayN w n 1
    let z := bwZ t3 (bwZ t2 (bwZ t1 (bwZ t0 0 b0) b1) b2) b3; let s := bwS t3 (bwS t2 (bwS t1 (bwS t0 0 b0) b1) b2) b3
    Ev (fun k => impl_bitwise.f k o v m w n) (((andn s (z &&& s) : Nat) : Int), ((z &&& s : Nat) : Int)) := by
  intro b0 b1 b2 b3 z s
  have k0 : b0 < 65536 := word_and (mayN_lt hv hm)
  have k1 : b1 < 65536 := word_and (mayN_lt hv hm)
  have k2 : b2 < 65536 := word_and (mayN_lt hv hm)
  have k3 : b3 < 65536 := word_and (mayN_lt hv hm)
  have kz1 : bwZ t1 (bwZ t0 0 b0) b1 < 65536 := bwZ_lt (bwZ_lt (by decide) k0) k1
  have ks1 : bwS t1 (bwS t0 0 b0) b1 < 65536 := bwS_lt (bwS_lt (by decide) k0) k1
  have kz : z < 65536 := bwZ_lt (bwZ_lt kz1 k2) k3
  have ks : s < 65536 := bwS_lt (bwS_lt ks1 k2) k3
  have kzs : z &&& s < 65536 := word_and kz
  unfold impl_bitwise.f
  refine bw_row (z := 0) (s := 0) (x := 0) (by decide) hv hm hw hn (by decide) (by decide) h0 h1 ?_
  refine bw_row (x := 1) (by decide) hv hm hw hn kz1 ks1 h2 h3 ?_
  refine Ev.step (fun k => impl_bitwise.l0.eq_2 ..) (Ev.neg (by decide) ?_)
  show Ev (fun _ => (impl_known.f (s : Int) (Go.bits .and .i64 (z : Int) (s : Int))).bind fun t => some (t.1, t.2)) _
  rw [bits_and z s (by omega) (by omega)]
  unfold impl_known.f
  rw [bits_andNot s (z &&& s) (by omega) (by omega)]
  exact Ev.now _
theorem pair_nat {a b c d : Nat} (h1 : a = c) (h2 : b = d) : ((a : Int), (b : Int)) = ((c : Int), (d : Int)) := by rw [h1, h2]
theorem bit_big {x i : Nat} (hx : x < 65536) (hi : Nat.testBit 65535 i = false) : x.testBit i = false := by
  have h := Nat.testBit_two_pow_sub_one 16 i
  rw [show 2 ^ 16 - 1 = 65535 from rfl, hi] at h
  have h16 : ¬ i < 16 := by simpa using h.symm
  exact Nat.testBit_lt_two_pow (Nat.lt_of_lt_of_le hx (Nat.pow_le_pow_right (n := 2) (show 2 > 0 by decide) (show 16 ≤ i by omega)))
theorem bits_ev (o : Int) (ho : o = 6 ∨ o = 7 ∨ o = 8) {a b c d : Int} (h1 : GoodK a b = true) (h2 : GoodK c d = true) : ∃ r, spec_l10Bits.f o a b c d = some r ∧ Ev (fun k => impl_bitwise.f k o a b c d) r := by
  obtain ⟨a, b, rfl, rfl, ha, hb, hab⟩ := GoodK_nat h1
  obtain ⟨c, d, rfl, rfl, hc, hd, hcd⟩ := GoodK_nat h2
  have hac := word_and (b := c) ha
  have oac := word_or ha hc
  have oab := word_or ha hb
  have ocd := word_or hc hd
  have obd := word_or hb hd
  have xac := word_xor ha hc
  have oo := word_and (b := c ||| d) oab
  have big : ∀ i, Nat.testBit 65535 i = false → a.testBit i = false ∧ b.testBit i = false ∧ c.testBit i = false ∧ d.testBit i = false := fun i h => ⟨bit_big ha h, bit_big hb h, bit_big hc h, bit_big hd h⟩
  rcases ho with rfl | rfl | rfl
  · have e := bw_ev (o := 6) (t0 := 0) (t1 := 0) (t2 := 0) (t3 := 1) ha hb hc hd (by decide) (by decide) (by decide) (by decide)
    refine ⟨_, rfl, Ev.at_ e ?_⟩
    rw [bits_and a c (by omega) (by omega), bits_or a b (by omega) (by omega), bits_or c d (by omega) (by omega), bits_and _ _ (by omega) (by omega), bits_andNot _ _ (by omega) (by omega)]
    refine pair_nat ?_ ?_
    all_goals
      apply Nat.eq_of_testBit_eq; intro i
      have k1 := and_zero_bit hab i
      have k2 := and_zero_bit hcd i
      have k3 := big i
      simp only [bwZ, bwS, mayN, testBit_andn, Nat.testBit_or, Nat.testBit_and, if_true, if_false, Nat.zero_testBit, reduceIte, Nat.reduceEqDiff, Nat.zero_ne_one, Nat.one_ne_zero]
      revert k1 k2 k3
      cases Nat.testBit 65535 i <;> cases a.testBit i <;> cases b.testBit i <;> cases c.testBit i <;> cases d.testBit i <;> simp
  · have e := bw_ev (o := 7) (t0 := 0) (t1 := 1) (t2 := 1) (t3 := 1) ha hb hc hd (by decide) (by decide) (by decide) (by decide)
    refine ⟨_, rfl, Ev.at_ e ?_⟩
    rw [bits_or a c (by omega) (by omega), bits_or b d (by omega) (by omega), bits_andNot _ _ (by omega) (by omega)]
    refine pair_nat ?_ ?_
    all_goals
      apply Nat.eq_of_testBit_eq; intro i
      have k1 := and_zero_bit hab i
      have k2 := and_zero_bit hcd i
      have k3 := big i
      simp only [bwZ, bwS, mayN, testBit_andn, Nat.testBit_or, Nat.testBit_and, if_true, if_false, Nat.zero_testBit, reduceIte, Nat.reduceEqDiff, Nat.zero_ne_one, Nat.one_ne_zero]
      revert k1 k2 k3
      cases Nat.testBit 65535 i <;> cases a.testBit i <;> cases b.testBit i <;> cases c.testBit i <;> cases d.testBit i <;> simp
  · have e := bw_ev (o := 8) (t0 := 0) (t1 := 1) (t2 := 1) (t3 := 0) ha hb hc hd (by decide) (by decide) (by decide) (by decide)
    refine ⟨_, rfl, Ev.at_ e ?_⟩
    rw [bits_xor a c (by omega) (by omega), bits_or b d (by omega) (by omega), bits_andNot _ _ (by omega) (by omega)]
    refine pair_nat ?_ ?_
    all_goals
      apply Nat.eq_of_testBit_eq; intro i
      have k1 := and_zero_bit hab i
      have k2 := and_zero_bit hcd i
      have k3 := big i
      simp only [bwZ, bwS, mayN, testBit_andn, Nat.testBit_or, Nat.testBit_and, Nat.testBit_xor, if_true, if_false, Nat.zero_testBit, reduceIte, Nat.reduceEqDiff, Nat.zero_ne_one, Nat.one_ne_zero]
      revert k1 k2 k3
      cases Nat.testBit 65535 i <;> cases a.testBit i <;> cases b.testBit i <;> cases c.testBit i <;> cases d.testBit i <;> simp
def EvP {α : Type} (g : Nat → Option α) (P : α → Prop) : Prop := ∃ r, Ev g r ∧ P r
theorem EvP.now {α : Type} {P : α → Prop} (r : α) (h : P r) : EvP (fun _ => some r) P := ⟨r, Ev.now r, h⟩
theorem EvP.bind {α β : Type} {g : Nat → Option α} {f : Nat → α → Option β} {P : α → Prop} {Q : β → Prop} (h : EvP g P) (k : ∀ a, P a → EvP (fun n => f n a) Q) : EvP (fun n => (g n).bind (f n)) Q := by
  obtain ⟨a, h1, h2⟩ := h
  obtain ⟨r, h3, h4⟩ := k a h2
  exact ⟨r, Ev.bind h1 h3, h4⟩
theorem EvP.bindE {α β : Type} {g : Option α} {f : Nat → α → Option β} {P : α → Prop} {Q : β → Prop} (h : ∃ a, g = some a ∧ P a) (k : ∀ a, P a → EvP (fun n => f n a) Q) : EvP (fun n => g.bind (f n)) Q := by
  obtain ⟨a, rfl, h2⟩ := h; exact k a h2
theorem EvP.mono {α : Type} {g : Nat → Option α} {P Q : α → Prop} (h : EvP g P) (k : ∀ a, P a → Q a) : EvP g Q := by obtain ⟨a, h1, h2⟩ := h; exact ⟨a, h1, k a h2⟩
theorem EvP.ite {α : Type} {c : Prop} [Decidable c] {A B : Nat → Option α} {P : α → Prop} (h1 : c → EvP A P) (h2 : ¬ c → EvP B P) : EvP (fun k => if c then A k else B k) P := by
  by_cases h : c
  · obtain ⟨r, a, b⟩ := h1 h; exact ⟨r, Ev.pos h a, b⟩
  · obtain ⟨r, a, b⟩ := h2 h; exact ⟨r, Ev.neg h a, b⟩
theorem EvP.pos {α : Type} {c : Prop} [Decidable c] {A B : Nat → Option α} {P : α → Prop} (h : c) (e : EvP A P) : EvP (fun k => if c then A k else B k) P := EvP.ite (fun _ => e) (fun n => absurd h n)
theorem EvP.neg {α : Type} {c : Prop} [Decidable c] {A B : Nat → Option α} {P : α → Prop} (h : ¬ c) (e : EvP B P) : EvP (fun k => if c then A k else B k) P := EvP.ite (fun n => absurd n h) (fun _ => e)
theorem EvP.step {α : Type} {g f : Nat → Option α} {P : α → Prop} (h : ∀ k, g (k + 1) = f k) (e : EvP f P) : EvP g P := by obtain ⟨r, a, b⟩ := e; exact ⟨r, Ev.step h a, b⟩
theorem EvP.congr {α : Type} {g f : Nat → Option α} {P : α → Prop} (h : ∀ k, g k = f k) (e : EvP f P) : EvP g P := by obtain ⟨r, a, b⟩ := e; exact ⟨r, Ev.congr h a, b⟩
def Bytes (l : List Int) : Prop := l.length ≤ 1099511627776 ∧ ∀ y ∈ l, 0 ≤ y ∧ y ≤ 255
theorem Bytes.rd {l : List Int} (h : Bytes l) (i : Int) (h0 : 0 ≤ i) (h1 : i < (l.length : Int)) : 0 ≤ rd l i ∧ rd l i ≤ 255 := by
  obtain ⟨n, rfl⟩ := Int.eq_ofNat_of_zero_le h0
  have hn : n < l.length := by omega
  rw [rd_nat l n hn]
  exact h.2 _ (List.getElem_mem hn)
theorem u8_wf {y : Int} (h : (Lit.int .u8 y).wf = true) : 0 ≤ y ∧ y ≤ 255 := by
  have h' : (decide (IntKind.u8.min ≤ y) && decide (y ≤ IntKind.u8.max)) = true := h
  have e1 : IntKind.u8.min = 0 := by decide
  have e2 : IntKind.u8.max = 255 := by decide
  rw [e1, e2] at h'
  simpa using h'
theorem u64c (x : Int) : 0 ≤ wrap64 (Go.bits .and .u64 x 255) ∧ wrap64 (Go.bits .and .u64 x 255) ≤ 255 := by
  have h : Go.bits .and .u64 x 255 = IntKind.u64.wrap ((BitVec.ofInt 64 x &&& BitVec.ofInt 64 255).toNat : Int) := rfl
  have h2 : (BitVec.ofInt 64 x &&& BitVec.ofInt 64 255).toNat ≤ 255 := by
    rw [BitVec.toNat_and]
    exact Nat.and_le_right
  have h3 : ∀ n : Int, IntKind.u64.wrap n = n % 18446744073709551616 := fun n => by simp [IntKind.wrap, IntKind.bits, IntKind.signed]
  rw [h, h3]
  generalize (BitVec.ofInt 64 x &&& BitVec.ofInt 64 255).toNat = z at h2
  unfold wrap64
  omega
theorem next_ok {l : List Int} (hl : Bytes l) (a s : Int) (h0 : 0 ≤ a) (h1 : a ≤ 1152921504606846976) :
    ∃ r : Int × Int × Int, spec_l1Cur_next.f l a s = some r ∧ (0 ≤ r.1 ∧ r.1 ≤ 255 ∧ r.2.1 = a + 1) := by
  have ew : wrap64 (a + 1) = a + 1 := by unfold wrap64; omega
  unfold spec_l1Cur_next.f
  by_cases c1 : a < (l.length : Int)
  · have hr := hl.rd a h0 c1
    have er : wrap64 (rd l a) = rd l a := by unfold wrap64; omega
    rw [if_pos c1, if_pos h0, ew, if_pos (by omega)]
    exact ⟨_, rfl, by rw [er]; exact hr.1, by rw [er]; exact hr.2, rfl⟩
  · rw [if_neg c1, ew, if_neg (by omega)]
    exact ⟨_, rfl, (u64c _).1, (u64c _).2, rfl⟩
theorem tmod_lt {x n : Int} (h0 : 0 ≤ x) (hn : 0 < n) : 0 ≤ Int.tmod x n ∧ Int.tmod x n < n := by
  rw [Int.tmod_eq_emod_of_nonneg h0]
  exact ⟨Int.emod_nonneg _ (by omega), Int.emod_lt_of_pos _ hn⟩
theorem pick_ok {l : List Int} (hl : Bytes l) (a s n : Int) (h0 : 0 ≤ a) (h1 : a ≤ 1152921504606846975) :
    ∃ r : Int × Int × Int, spec_l1Cur_pick.f l a s n = some r ∧ (0 ≤ r.1 ∧ r.1 ≤ n - 1 ∨ r.1 = 0 ∧ n ≤ 1) ∧ a ≤ r.2.1 ∧ r.2.1 ≤ a + 2 := by
  unfold spec_l1Cur_pick.f
  by_cases c1 : n ≤ 1
  · rw [if_pos c1]; exact ⟨_, rfl, Or.inr ⟨rfl, c1⟩, Int.le_refl _, by show a ≤ a + 2; omega⟩
  · rw [if_neg c1]
    obtain ⟨r, hr, h2, h3, h4⟩ := next_ok hl a s h0 (by omega)
    rw [hr]; simp only [Option.bind_some]
    by_cases c2 : n > 200
    · rw [if_pos c2]
      obtain ⟨q, hq, h5, h6, h7⟩ := next_ok hl r.2.1 r.2.2 (by omega) (by omega)
      rw [hq]; simp only [Option.bind_some]
      rw [if_neg (by omega)]
      have e : wrap64 ((wrap64 (r.1 * 256)) + q.1) = r.1 * 256 + q.1 := by unfold wrap64; omega
      have := tmod_lt (x := r.1 * 256 + q.1) (n := n) (by omega) (by omega)
      refine ⟨_, rfl, Or.inl ?_, ?_, ?_⟩
      · rw [e]; omega
      · show a ≤ q.2.1; omega
      · show q.2.1 ≤ a + 2; omega
    · rw [if_neg c2, if_neg (by omega)]
      have := tmod_lt (x := r.1) (n := n) h2 (by omega)
      refine ⟨_, rfl, Or.inl ?_, ?_, ?_⟩
      · show 0 ≤ Int.tmod r.1 n ∧ Int.tmod r.1 n ≤ n - 1; omega
      · show a ≤ r.2.1; omega
      · show r.2.1 ≤ a + 2; omega
theorem one_ok {l : List Int} (hl : Bytes l) (a s n : Int) (h0 : 0 ≤ a) (h1 : a ≤ 1152921504606846975) :
    ∃ r : Bool × Int × Int, spec_l1Cur_one.f l a s n = some r ∧ a ≤ r.2.1 ∧ r.2.1 ≤ a + 2 := by
  unfold spec_l1Cur_one.f
  obtain ⟨r, hr, _, h2, h3⟩ := pick_ok hl a s n h0 h1
  rw [hr]; exact ⟨_, rfl, h2, h3⟩
theorem among_ok {l : List Int} (hl : Bytes l) (a s : Int) (xs : List Int) (hx : 0 < xs.length) (hx2 : xs.length ≤ 1000) (h0 : 0 ≤ a) (h1 : a ≤ 1152921504606846975) :
    ∃ r : Int × Int × Int, spec_l1Cur_among.f l a s xs = some r ∧ r.1 ∈ xs ∧ a ≤ r.2.1 ∧ r.2.1 ≤ a + 2 := by
  unfold spec_l1Cur_among.f
  obtain ⟨r, hr, h2, h3, h4⟩ := pick_ok hl a s (xs.length : Int) h0 h1
  rw [hr]; simp only [Option.bind_some]
  have hb : 0 ≤ r.1 ∧ r.1 < (xs.length : Int) := by omega
  rw [if_pos hb.1, if_pos hb.2]
  obtain ⟨n, hn⟩ := Int.eq_ofNat_of_zero_le hb.1
  refine ⟨_, rfl, ?_, h3, h4⟩
  show rd xs r.1 ∈ xs
  rw [hn, rd_nat xs n (by omega)]
  exact List.getElem_mem _
theorem word_ok {l : List Int} (hl : Bytes l) (a s : Int) (h0 : 0 ≤ a) (h1 : a ≤ 1152921504606846900) :
    ∃ r : Int × Int × Int, spec_l1Cur_word.f l a s = some r ∧ (0 ≤ r.1 ∧ r.1 ≤ 65535) ∧ a ≤ r.2.1 ∧ r.2.1 ≤ a + 12 := by
  unfold spec_l1Cur_word.f
  obtain ⟨r1, e1, p1, q1, s1⟩ := pick_ok hl a s 256 h0 (by omega)
  rw [e1]; simp only [Option.bind_some]
  obtain ⟨r2, e2, p2, q2, s2⟩ := pick_ok hl r1.2.1 r1.2.2 256 (by omega) (by omega)
  rw [e2]; simp only [Option.bind_some]
  obtain ⟨r3, e3, p3, q3, s3⟩ := pick_ok hl r2.2.1 r2.2.2 256 (by omega) (by omega)
  rw [e3]; simp only [Option.bind_some]
  obtain ⟨r4, e4, p4, q4, s4⟩ := pick_ok hl r3.2.1 r3.2.2 256 (by omega) (by omega)
  rw [e4]; simp only [Option.bind_some]
  obtain ⟨r5, e5, p5, q5, s5⟩ := pick_ok hl r4.2.1 r4.2.2 20 (by omega) (by omega)
  rw [e5]; simp only [Option.bind_some]
  obtain ⟨r6, e6, p6, q6, s6⟩ := among_ok hl r5.2.1 r5.2.2 ([0, 1, 2, 255, 256, 32767, 32768, 65535, wrap64 ((wrap64 (r1.1 * 256)) + r2.1), wrap64 ((wrap64 (r3.1 * 256)) + r4.1), r5.1]) (by simp) (by simp) (by omega) (by omega)
  rw [e6]
  refine ⟨_, rfl, ?_, ?_, ?_⟩
  · show 0 ≤ r6.1 ∧ r6.1 ≤ 65535
    have k1 : wrap64 ((wrap64 (r1.1 * 256)) + r2.1) = r1.1 * 256 + r2.1 := by unfold wrap64; omega
    have k2 : wrap64 ((wrap64 (r3.1 * 256)) + r4.1) = r3.1 * 256 + r4.1 := by unfold wrap64; omega
    rw [k1, k2] at p6
    clear k1 k2
    simp only [List.mem_cons, List.not_mem_nil, or_false] at p6
    omega
  · show a ≤ r6.2.1; omega
  · show r6.2.1 ≤ a + 12; omega
theorem rawWord_ok {l : List Int} (hl : Bytes l) (a s : Int) (h0 : 0 ≤ a) (h1 : a ≤ 1152921504606846800) :
    ∃ r : Int × Int × Int, spec_l1Cur_rawWord.f l a s = some r ∧ (-1 ≤ r.1 ∧ r.1 ≤ 65536) ∧ a ≤ r.2.1 ∧ r.2.1 ≤ a + 14 := by
  unfold spec_l1Cur_rawWord.f
  obtain ⟨r1, e1, q1, s1⟩ := one_ok hl a s 20 h0 (by omega)
  rw [e1]; simp only [Option.bind_some]
  by_cases c : r1.1 = true
  · rw [if_pos c]
    obtain ⟨r6, e6, p6, q6, s6⟩ := among_ok hl r1.2.1 r1.2.2 [(-1), 65536] (by simp) (by simp) (by omega) (by omega)
    rw [e6]
    refine ⟨_, rfl, ?_, ?_, ?_⟩
    · show -1 ≤ r6.1 ∧ r6.1 ≤ 65536
      simp only [List.mem_cons, List.not_mem_nil, or_false] at p6
      omega
    · show a ≤ r6.2.1; omega
    · show r6.2.1 ≤ a + 14; omega
  · rw [if_neg c]
    obtain ⟨r6, e6, p6, q6, s6⟩ := word_ok hl r1.2.1 r1.2.2 (by omega) (by omega)
    rw [e6]
    refine ⟨_, rfl, ?_, ?_, ?_⟩
    · show -1 ≤ r6.1 ∧ r6.1 ≤ 65536; omega
    · show a ≤ r6.2.1; omega
    · show r6.2.1 ≤ a + 14; omega
theorem bytes_of {l : List Int} (h : l.length * 1 ≤ 140737488351232 ∧ ∀ y0_ ∈ l, (Lit.int .u8 y0_).wf = true) (hs : l.length ≤ 1048576) : Bytes l := ⟨by omega, fun y hy => u8_wf (h.2 y hy)⟩
theorem small_of {l0 l1 : List Int} (h : ¬ (wrap64 ((l0.length : Int) + (l1.length : Int))) > 1048576) (h0 : l0.length * 1 ≤ 140737488351232) (h1 : l1.length * 1 ≤ 140737488351232) : l0.length ≤ 1048576 ∧ l1.length ≤ 1048576 := by
  have e : wrap64 ((l0.length : Int) + (l1.length : Int)) = (l0.length : Int) + (l1.length : Int) := by unfold wrap64; omega
  rw [e] at h; omega
theorem do_add (x y : Int) (hx : 0 ≤ x ∧ x ≤ 65535) (hy : 0 ≤ y ∧ y ≤ 65535) : impl_do.f 1 x y = some ((x + y) % 65536) := by
  unfold impl_do.f
  rw [if_pos rfl, impl_WordOf_eq, wrap_id (x + y) (by omega) (by omega)]; rfl
theorem do_sub (x y : Int) (hx : 0 ≤ x ∧ x ≤ 65535) (hy : 0 ≤ y ∧ y ≤ 65535) : impl_do.f 2 x y = some ((x - y) % 65536) := by
  unfold impl_do.f
  rw [if_neg (by decide), if_pos rfl, impl_WordOf_eq, wrap_id (x - y) (by omega) (by omega)]; rfl
theorem do_mul (x y : Int) (hx : 0 ≤ x ∧ x ≤ 65535) (hy : 0 ≤ y ∧ y ≤ 65535) : impl_do.f 3 x y = some ((x * y) % 65536) := by
  obtain ⟨m1, m2⟩ := mul_word hx.1 hx.2 hy.1 hy.2
  unfold impl_do.f
  rw [if_neg (by decide), if_neg (by decide), if_pos rfl, impl_WordOf_eq, wrap_id (x * y) (by omega) (by omega)]; rfl
theorem do_div (x y : Int) (hx : 0 ≤ x ∧ x ≤ 65535) (hy : 0 ≤ y ∧ y ≤ 65535) : impl_do.f 4 x y = some (x / y) := by
  unfold impl_do.f
  rw [if_neg (by decide), if_neg (by decide), if_neg (by decide), if_pos rfl]
  by_cases h : y = 0
  · rw [if_pos h, h, Int.ediv_zero]
  · rw [if_neg h, Int.tdiv_eq_ediv_of_nonneg hx.1]
    have := Int.ediv_nonneg hx.1 hy.1
    have := Int.ediv_le_self y hx.1
    rw [wrap_id _ (by omega) (by omega)]
theorem do_mod (x y : Int) (hx : 0 ≤ x ∧ x ≤ 65535) (hy : 0 ≤ y ∧ y ≤ 65535) : impl_do.f 5 x y = some (x % y) := by
  unfold impl_do.f
  rw [if_neg (by decide), if_neg (by decide), if_neg (by decide), if_neg (by decide), if_pos rfl]
  by_cases h : y = 0
  · rw [if_pos h, h, Int.emod_zero]
  · rw [if_neg h, Int.tmod_eq_emod_of_nonneg hx.1]
theorem do_and (x y : Int) : impl_do.f 6 x y = some (Go.bits .and .i64 x y) := by
  unfold impl_do.f
  rw [if_neg (by decide), if_neg (by decide), if_neg (by decide), if_neg (by decide), if_neg (by decide), if_pos rfl]
theorem do_or (x y : Int) : impl_do.f 7 x y = some (Go.bits .or .i64 x y) := by
  unfold impl_do.f
  rw [if_neg (by decide), if_neg (by decide), if_neg (by decide), if_neg (by decide), if_neg (by decide), if_neg (by decide), if_pos rfl]
theorem do_xor (x y : Int) : impl_do.f 8 x y = some (Go.bits .xor .i64 x y) := by
  unfold impl_do.f
  rw [if_neg (by decide), if_neg (by decide), if_neg (by decide), if_neg (by decide), if_neg (by decide), if_neg (by decide), if_neg (by decide), if_pos rfl]
theorem pow_word' {n : Nat} (h : n < 16) : 1 ≤ ((2 ^ n : Nat) : Int) ∧ ((2 ^ n : Nat) : Int) ≤ 32768 := pow_word h
theorem do_shl (x y : Int) (n : Nat) (hn : n < 16) (e : Int.tmod y 16 = (n : Int)) (hx : 0 ≤ x ∧ x ≤ 65535) : impl_do.f 9 x y = some ((x * ((2 ^ n : Nat) : Int)) % 65536) := by
  unfold impl_do.f
  rw [if_neg (by decide), if_neg (by decide), if_neg (by decide), if_neg (by decide), if_neg (by decide), if_neg (by decide), if_neg (by decide), if_neg (by decide), if_pos rfl, e, if_pos (by omega), shl_nat x n (by omega), impl_WordOf_eq]
  obtain ⟨p1, p2⟩ := pow_word' hn
  generalize ((2 ^ n : Nat) : Int) = p at p1 p2 ⊢
  obtain ⟨m1, m2⟩ := mul_word hx.1 hx.2 (show 0 ≤ p by omega) (show p ≤ 65535 by omega)
  rw [wrap_id _ (by omega) (by omega)]; rfl
theorem do_shr (o x y : Int) (n : Nat) (hn : n < 16) (e : Int.tmod y 16 = (n : Int)) (ho : 10 ≤ o) : impl_do.f o x y = some (x / ((2 ^ n : Nat) : Int)) := by
  unfold impl_do.f
  rw [if_neg (by omega), if_neg (by omega), if_neg (by omega), if_neg (by omega), if_neg (by omega), if_neg (by omega), if_neg (by omega), if_neg (by omega), if_neg (by omega), e, if_pos (by omega), shr_nat x n (by omega)]
theorem doOp_ok {o x y z : Int} (ho : 1 ≤ o ∧ o ≤ 10) (hx : 0 ≤ x ∧ x ≤ 65535) (hy : 0 ≤ y ∧ y ≤ 65535) (h : impl_do.f o x y = some z) : impl_DoOp.f o x y = some (z, true) := by
  unfold impl_DoOp.f
  rw [impl_isOp_eq, impl_isWord_eq, impl_isWord_eq, In_true.2 ho, In_true.2 hx, In_true.2 hy, h]; rfl
theorem known_j1 {l : List Int} (hl : Bytes l) (x a s : Int) (h0 : 0 ≤ a) (h1 : a ≤ 1152921504606846700) :
    EvP (fun k => spec_l1Cur_known.j1 k x l a s) (fun r => a ≤ r.2.2.1 ∧ r.2.2.1 ≤ a + 50) := by
  refine EvP.step (fun k => spec_l1Cur_known.j1.eq_2 ..) ?_
  refine EvP.bindE (word_ok hl a s h0 (by omega)) fun p hp => EvP.bindE (P := fun _ => True) ⟨_, rfl, trivial⟩ fun q _ => EvP.bindE (one_ok hl _ _ 30 (by omega) (by omega)) fun r hr => EvP.ite (fun _ => ?_) (fun _ => EvP.now _ ?_)
  · refine EvP.bindE (rawWord_ok hl _ _ (by omega) (by omega)) fun u hu => EvP.bindE (rawWord_ok hl _ _ (by omega) (by omega)) fun v hv => EvP.now _ ?_
    show a ≤ v.2.1 ∧ v.2.1 ≤ a + 50; omega
  · show a ≤ r.2.1 ∧ r.2.1 ≤ a + 50; omega
theorem u64_small {x : Int} (h0 : 0 ≤ x) (h1 : x ≤ 1000) : IntKind.u64.wrap x = x := by
  have : IntKind.u64.wrap x = x % 18446744073709551616 := by simp [IntKind.wrap, IntKind.bits, IntKind.signed]
  rw [this]; omega
theorem known_l0 {l : List Int} (hl : Bytes l) : ∀ (d : Nat) (x n a s : Int), n ≤ d → d ≤ 5 → 0 ≤ a → a + 2 * d ≤ 1152921504606846500 →
    EvP (fun k => spec_l1Cur_known.l0 k x n l a s) (fun r => a ≤ r.2.2.1 ∧ r.2.2.1 ≤ a + 64 + 2 * d) 
  | 0, x, n, a, s, hn, hd, h0, h1 => by
    refine EvP.step (fun k => spec_l1Cur_known.l0.eq_2 ..) (EvP.neg (by omega) ?_)
    refine EvP.bindE (one_ok hl a s 8 h0 (by omega)) fun p hp => EvP.ite (fun _ => ?_) (fun _ => ?_)
    · refine EvP.bindE (word_ok hl _ _ (by omega) (by omega)) fun q hq => (known_j1 hl _ _ _ (by omega) (by omega)).mono fun r hr => by omega
    · exact (known_j1 hl _ _ _ (by omega) (by omega)).mono fun r hr => by omega
  | d + 1, x, n, a, s, hn, hd, h0, h1 => by
    by_cases c : n > 0
    · refine EvP.step (fun k => spec_l1Cur_known.l0.eq_2 ..) (EvP.pos c ?_)
      refine EvP.bindE (pick_ok hl a s 16 h0 (by omega)) fun p hp => EvP.pos (by rw [u64_small (by omega) (by omega)]; omega) ?_
      exact (known_l0 hl d _ _ _ _ (by rw [wrap_id _ (by omega) (by omega)]; omega) (by omega) (by omega) (by omega)).mono fun r hr => by omega
    · exact (known_l0 hl d x n a s (by omega) (by omega) h0 (by omega)).mono fun r hr => by omega
theorem known_ok {l : List Int} (hl : Bytes l) (a s : Int) (h0 : 0 ≤ a) (h1 : a ≤ 1152921504606846400) :
    EvP (fun k => spec_l1Cur_known.f k l a s) (fun r => a ≤ r.2.2.1 ∧ r.2.2.1 ≤ a + 80) := by
  unfold spec_l1Cur_known.f
  exact EvP.bindE (pick_ok hl a s 5 h0 (by omega)) fun p hp => (known_l0 hl 5 _ _ _ _ (by omega) (by omega) (by omega) (by omega)).mono fun r hr => by omega
theorem dep_b (m : Nat) : ∀ (d j n out : Nat), j + d = 16 → out < 65536 → (∀ i, j ≤ i → m.testBit i = true → out.testBit i = false) →
    deposit m d j n out < 65536 ∧ ∀ i, (m.testBit i = false ∨ i < j) → (deposit m d j n out).testBit i = out.testBit i
  | 0, j, n, out, hj, ho, hi => ⟨ho, fun _ _ => rfl⟩
  | d + 1, j, n, out, hj, ho, hi => by
    unfold deposit
    by_cases hb : m.testBit j = true
    · rw [if_pos hb]
      have hor := add_or ho (by omega) (hi j (Nat.le_refl _) hb)
      have hlt : out ||| 2 ^ j < 65536 := or_ltp ho (pow15 (by omega))
      have key : out + n % 2 * 2 ^ j = out ∨ out + n % 2 * 2 ^ j = out ||| 2 ^ j := by
        rcases Nat.mod_two_eq_zero_or_one n with h0 | h0
        · left; rw [h0]; omega
        · right; rw [h0, Nat.one_mul, hor]
      have hn : out + n % 2 * 2 ^ j < 65536 ∧ ∀ i, i ≠ j → (out + n % 2 * 2 ^ j).testBit i = out.testBit i := by
        rcases key with e | e <;> rw [e]
        · exact ⟨ho, fun _ _ => rfl⟩
        · exact ⟨hlt, fun i hne => by rw [Nat.testBit_or, Nat.testBit_two_pow_of_ne (Ne.symm hne)]; simp⟩
      obtain ⟨h1, h2⟩ := dep_b m d (j + 1) (n / 2) _ (by omega) hn.1 (fun i hij hm => by rw [hn.2 i (by omega)]; exact hi i (by omega) hm)
      refine ⟨h1, fun i h => ?_⟩
      rw [h2 i (by rcases h with h | h; exact Or.inl h; exact Or.inr (by omega)), hn.2 i]
      rintro rfl
      rcases h with h | h
      · rw [hb] at h; cases h
      · omega
    · rw [if_neg hb]
      obtain ⟨h1, h2⟩ := dep_b m d (j + 1) n out (by omega) ho (fun i hij => hi i (by omega))
      exact ⟨h1, fun i h => h2 i (by rcases h with h | h; exact Or.inl h; exact Or.inr (by omega))⟩
theorem numM_match {v m n : Nat} (hv : v < 65536) (hvm : v &&& m = 0) : numM v m n < 65536 ∧ andn (numM v m n) m = v := by
  obtain ⟨h1, h2⟩ := dep_b m 16 0 n v (by omega) hv (fun i _ hi => by have := and_zero_bit hvm i; rw [hi] at this; simpa using this)
  refine ⟨h1, ?_⟩
  apply Nat.eq_of_testBit_eq; intro i
  have hb := and_zero_bit hvm i
  rw [testBit_andn]
  cases hm : m.testBit i with
  | true => rw [hm] at hb; revert hb; cases v.testBit i <;> simp
  | false => unfold numM; rw [h2 i (Or.inl hm)]; simp
theorem numberAt_impl (a b n : Nat) (h : GoodK a b = true) (hb : b < 65536) (ha : a < 65536) (hab : a &&& b = 0) (hn : n < 2 ^ popc 16 b) : Ev (fun k => impl_NumberAt.f k a b (n : Int)) (((numM a b n : Nat) : Int), true) := (numberAt_in a b n h hb ha hab hn).2
def Mt (v m x : Int) : Prop := 0 ≤ x ∧ x ≤ 65535 ∧ Go.bits .andNot .i64 x m = v
theorem GoodK_mk {a b : Nat} (ha : a < 65536) (hb : b < 65536) (h : a &&& b = 0) : GoodK (a : Int) (b : Int) = true := by
  unfold GoodK
  rw [bits_and a b (by omega) (by omega), h, In_true.2 (by omega), In_true.2 (by omega)]; rfl
theorem Mt_nat {a b x : Nat} (hb : b < 65536) (hx : x < 65536) : Mt (a : Int) (b : Int) (x : Int) ↔ andn x b = a := by
  unfold Mt
  rw [bits_andNot x b (by omega) (by omega)]
  constructor
  · rintro ⟨_, _, h⟩; omega
  · intro h; rw [h]; omega
theorem exact_good {x : Int} (h0 : 0 ≤ x) (h1 : x ≤ 65535) : GoodK x 0 = true ∧ Mt x 0 x := by
  obtain ⟨n, rfl⟩ := Int.eq_ofNat_of_zero_le h0
  have hn : n < 65536 := by omega
  refine ⟨GoodK_mk (b := 0) hn (by omega) (by simp), (Mt_nat (b := 0) (by omega) hn).2 ?_⟩
  apply Nat.eq_of_testBit_eq; intro i
  rw [testBit_andn]; simp
def jm (a b c d : Nat) : Nat := (b ||| d) ||| (a ^^^ c)
theorem jm_lt {a b c d : Nat} (ha : a < 65536) (hb : b < 65536) (hc : c < 65536) (hd : d < 65536) : jm a b c d < 65536 := word_or (word_or hb hd) (word_xor ha hc)
theorem JoinK_nat {a b c d : Nat} (ha : a < 65536) (hb : b < 65536) (hc : c < 65536) (hd : d < 65536) : JoinK (a : Int) b c d = (((andn a (jm a b c d) : Nat) : Int), ((jm a b c d : Nat) : Int)) := by
  have h1 := word_or hb hd
  have h2 := word_xor ha hc
  have h3 := jm_lt ha hb hc hd
  unfold JoinK
  rw [bits_or b d (by omega) (by omega), bits_xor a c (by omega) (by omega), bits_or (b ||| d) (a ^^^ c) (by omega) (by omega), bits_andNot a ((b ||| d) ||| (a ^^^ c)) (by omega) (by unfold jm at h3; omega)]
  rfl
theorem join_good {a b c d : Int} (h1 : GoodK a b = true) (h2 : GoodK c d = true) : GoodK (JoinK a b c d).1 (JoinK a b c d).2 = true ∧ (∀ x, Mt a b x → Mt (JoinK a b c d).1 (JoinK a b c d).2 x) ∧ (∀ x, Mt c d x → Mt (JoinK a b c d).1 (JoinK a b c d).2 x) := by
  obtain ⟨a, b, rfl, rfl, ha, hb, hab⟩ := GoodK_nat h1
  obtain ⟨c, d, rfl, rfl, hc, hd, hcd⟩ := GoodK_nat h2
  rw [JoinK_nat ha hb hc hd]
  have hj := jm_lt ha hb hc hd
  refine ⟨GoodK_mk (word_andn ha) hj ?_, fun x hx => ?_, fun x hx => ?_⟩
  · apply Nat.eq_of_testBit_eq; intro i
    rw [Nat.testBit_and, testBit_andn]; simp
  · obtain ⟨n, rfl⟩ := Int.eq_ofNat_of_zero_le hx.1
    have hn : n < 65536 := by have := hx.2.1; omega
    have e := (Mt_nat hb hn).1 hx
    refine (Mt_nat hj hn).2 ?_
    apply Nat.eq_of_testBit_eq; intro i
    have e1 : (andn n b).testBit i = a.testBit i := by rw [e]
    rw [testBit_andn] at e1
    simp only [testBit_andn, jm, Nat.testBit_or, Nat.testBit_xor]
    revert e1
    cases n.testBit i <;> cases a.testBit i <;> cases b.testBit i <;> cases c.testBit i <;> cases d.testBit i <;> simp
  · obtain ⟨n, rfl⟩ := Int.eq_ofNat_of_zero_le hx.1
    have hn : n < 65536 := by have := hx.2.1; omega
    have e := (Mt_nat hd hn).1 hx
    refine (Mt_nat hj hn).2 ?_
    apply Nat.eq_of_testBit_eq; intro i
    have e1 : (andn n d).testBit i = c.testBit i := by rw [e]
    have k1 := and_zero_bit hab i
    rw [testBit_andn] at e1
    simp only [testBit_andn, jm, Nat.testBit_or, Nat.testBit_xor]
    revert e1 k1
    cases n.testBit i <;> cases a.testBit i <;> cases b.testBit i <;> cases c.testBit i <;> cases d.testBit i <;> simp
theorem mayBe_ok {v m x : Int} (h : GoodK v m = true) (h0 : 0 ≤ x) (h1 : x ≤ 65535) : impl_MayBe.f v m x = some (Go.bits .andNot .i64 x m == v, true) := by
  rw [impl_MayBe_eq, h, In_true.2 ⟨h0, h1⟩]; rfl
theorem mayBe_mt {v m x : Int} (h : GoodK v m = true) (hx : Mt v m x) : impl_MayBe.f v m x = some (true, true) := by
  rw [mayBe_ok h hx.1 hx.2.1, hx.2.2]; simp
/-! sums, bit by bit -/
theorem sub_le {u w : Nat} (h : ∀ i, u.testBit i = true → w.testBit i = true) : u ≤ w := by
  have e : u &&& w = u := by
    apply Nat.eq_of_testBit_eq; intro i
    rw [Nat.testBit_and]
    have := h i
    cases hu : u.testBit i with
    | true => rw [this hu]; rfl
    | false => rfl
  rw [← e]; exact Nat.and_le_right
theorem sub_mod_le {u w : Nat} (h : ∀ i, u.testBit i = true → w.testBit i = true) (k : Nat) : u % 2 ^ k ≤ w % 2 ^ k := by
  refine sub_le fun i hi => ?_
  rw [Nat.testBit_mod_two_pow] at hi ⊢
  rw [Bool.and_eq_true] at hi ⊢
  exact ⟨hi.1, h i hi.2⟩
def carryB (k x y e : Nat) : Bool := decide (2 ^ k ≤ x % 2 ^ k + y % 2 ^ k + e)
theorem bit_add (x y e k : Nat) (he : e ≤ 1) : (x + y + e).testBit k = ((x.testBit k ^^ y.testBit k) ^^ carryB k x y e) := by
  have hp := Nat.two_pow_pos k
  have hx := Nat.div_add_mod x (2 ^ k)
  have hy := Nat.div_add_mod y (2 ^ k)
  have lx := Nat.mod_lt x hp
  have ly := Nat.mod_lt y hp
  rw [Nat.testBit_eq_decide_div_mod_eq, Nat.testBit_eq_decide_div_mod_eq, Nat.testBit_eq_decide_div_mod_eq]
  unfold carryB
  have key : (x + y + e) / 2 ^ k = x / 2 ^ k + y / 2 ^ k + (if 2 ^ k ≤ x % 2 ^ k + y % 2 ^ k + e then 1 else 0) := by
    generalize 2 ^ k = P at hp hx hy lx ly ⊢
    generalize x / P = q at hx ⊢
    generalize y / P = r at hy ⊢
    generalize x % P = u at hx lx ⊢
    generalize y % P = v at hy ly ⊢
    subst hx hy
    split
    · rename_i h
      have : P * q + u + (P * r + v) + e = (u + v + e - P) + P * (q + r + 1) := by rw [Nat.mul_add, Nat.mul_add]; omega
      rw [this, Nat.add_mul_div_left _ _ hp, Nat.div_eq_of_lt (by omega)]; omega
    · rename_i h
      have : P * q + u + (P * r + v) + e = (u + v + e) + P * (q + r) := by rw [Nat.mul_add]; omega
      rw [this, Nat.add_mul_div_left _ _ hp, Nat.div_eq_of_lt (by omega)]; omega
  rw [key]
  generalize x / 2 ^ k = q
  generalize y / 2 ^ k = r
  by_cases h : 2 ^ k ≤ x % 2 ^ k + y % 2 ^ k + e
  · rw [if_pos h, decide_eq_true h]
    rcases Nat.mod_two_eq_zero_or_one q with h1 | h1 <;> rcases Nat.mod_two_eq_zero_or_one r with h2 | h2 <;> simp [h1, h2] <;> omega
  · rw [if_neg h, decide_eq_false h]
    rcases Nat.mod_two_eq_zero_or_one q with h1 | h1 <;> rcases Nat.mod_two_eq_zero_or_one r with h2 | h2 <;> simp [h1, h2] <;> omega
theorem match_bits {v m x : Nat} (h : andn x m = v) (i : Nat) : (v.testBit i = true → x.testBit i = true) ∧ (x.testBit i = true → (v ||| m).testBit i = true) ∧ (m.testBit i = false → x.testBit i = v.testBit i) := by
  have e : (x.testBit i && !m.testBit i) = v.testBit i := by rw [← testBit_andn, h]
  rw [Nat.testBit_or, ← e]
  cases x.testBit i <;> cases m.testBit i <;> simp
theorem carry_sound {a b c d x y e : Nat} (he : e ≤ 1) (hx : andn x b = a) (hy : andn y d = c) (i : Nat) (hb : b.testBit i = false) (hd : d.testBit i = false) (h : (a + c + e).testBit i = ((a ||| b) + (c ||| d) + e).testBit i) : (x + y + e).testBit i = (a + c + e).testBit i := by
  rw [bit_add _ _ _ _ he, bit_add _ _ _ _ he] at h ⊢
  rw [Nat.testBit_or, Nat.testBit_or, hb, hd, Bool.or_false, Bool.or_false] at h
  rw [(match_bits hx i).2.2 hb, (match_bits hy i).2.2 hd]
  have l1 := sub_mod_le (fun i => (match_bits hx i).1) i
  have l2 := sub_mod_le (fun i => (match_bits hx i).2.1) i
  have l3 := sub_mod_le (fun i => (match_bits hy i).1) i
  have l4 := sub_mod_le (fun i => (match_bits hy i).2.1) i
  have hc : carryB i a c e = carryB i (a ||| b) (c ||| d) e := by
    revert h; cases a.testBit i <;> cases c.testBit i <;> cases carryB i a c e <;> cases carryB i (a ||| b) (c ||| d) e <;> simp
  have : carryB i x y e = carryB i a c e := by
    cases h0 : carryB i a c e with
    | true =>
      unfold carryB at h0 ⊢
      have := of_decide_eq_true h0
      exact decide_eq_true (by omega)
    | false =>
      rw [h0] at hc
      unfold carryB at hc ⊢
      have := of_decide_eq_false hc.symm
      exact decide_eq_false (by omega)
  rw [this]
theorem bit_low {n i : Nat} (hi : i < 16) : (n % 65536).testBit i = n.testBit i := by
  rw [show (65536 : Nat) = 2 ^ 16 from rfl, Nat.testBit_mod_two_pow, decide_eq_true hi]; rfl
theorem bit_high {n i : Nat} (hi : ¬ i < 16) : (n % 65536).testBit i = false := by
  rw [show (65536 : Nat) = 2 ^ 16 from rfl, Nat.testBit_mod_two_pow, decide_eq_false hi]; rfl
theorem bit_word {n i : Nat} (h : n < 65536) (hi : ¬ i < 16) : n.testBit i = false := by
  have := bit_high (n := n) hi
  rwa [Nat.mod_eq_of_lt h] at this
theorem flip_bit (n i : Nat) : (n + 2 ^ i).testBit i = !n.testBit i := by
  rw [Nat.testBit_eq_decide_div_mod_eq, Nat.testBit_eq_decide_div_mod_eq, Nat.add_div_right _ (Nat.two_pow_pos i)]
  rcases Nat.mod_two_eq_zero_or_one (n / 2 ^ i) with h | h <;> simp [h] <;> omega
theorem self {v m : Nat} (h : v &&& m = 0) : andn v m = v := by
  apply Nat.eq_of_testBit_eq; intro i
  have := and_zero_bit h i
  rw [testBit_andn]; revert this; cases v.testBit i <;> cases m.testBit i <;> simp
theorem sum_known {a b c d e : Nat} (he : e ≤ 1) (ha : a < 65536) (hb : b < 65536) (hc : c < 65536) (hd : d < 65536) (hab : a &&& b = 0) (hcd : c &&& d = 0) {M : Nat} (hM : M = (b ||| d) ||| (((a + c + e) % 65536) ^^^ (((a ||| b) + (c ||| d) + e) % 65536))) :
    M < 65536 ∧ (∀ x y, andn x b = a → andn y d = c → andn ((x + y + e) % 65536) M = andn ((a + c + e) % 65536) M) ∧
    (∀ i, M.testBit i = true → ∃ x1 y1 x2 y2, (x1 < 65536 ∧ y1 < 65536 ∧ andn x1 b = a ∧ andn y1 d = c) ∧ (x2 < 65536 ∧ y2 < 65536 ∧ andn x2 b = a ∧ andn y2 d = c) ∧ ((x1 + y1 + e) % 65536).testBit i ≠ ((x2 + y2 + e) % 65536).testBit i) := by
  have hMl : M < 65536 := by rw [hM]; exact word_or (word_or hb hd) (word_xor (Nat.mod_lt _ (by decide)) (Nat.mod_lt _ (by decide)))
  have bits : ∀ i, i < 16 → M.testBit i = ((b.testBit i || d.testBit i) || ((a + c + e).testBit i ^^ ((a ||| b) + (c ||| d) + e).testBit i)) := fun i hi => by
    rw [hM]; simp only [Nat.testBit_or, Nat.testBit_xor, bit_low hi]
  have full : ∀ {v m : Nat}, v &&& m = 0 → andn (v ||| m) m = v := fun {v m} h => by
    apply Nat.eq_of_testBit_eq; intro i
    have := and_zero_bit h i
    rw [testBit_andn, Nat.testBit_or]; revert this; cases v.testBit i <;> cases m.testBit i <;> simp
  have one : ∀ {v m : Nat} {i : Nat}, v < 65536 → i < 16 → v &&& m = 0 → m.testBit i = true → (v + 2 ^ i < 65536 ∧ andn (v + 2 ^ i) m = v) := fun {v m i} hv hi h hm => by
    have hvi : v.testBit i = false := by have := and_zero_bit h i; rw [hm] at this; simpa using this
    rw [add_or hv hi hvi]
    refine ⟨or_ltp hv (pow15 hi), ?_⟩
    apply Nat.eq_of_testBit_eq; intro j
    have := and_zero_bit h j
    rw [testBit_andn, Nat.testBit_or]
    by_cases hj : i = j
    · subst hj; rw [hm, hvi]; simp
    · rw [Nat.testBit_two_pow_of_ne hj]; revert this; cases v.testBit j <;> cases m.testBit j <;> simp
  refine ⟨hMl, fun x y hx hy => ?_, fun i hi => ?_⟩
  · apply Nat.eq_of_testBit_eq; intro i
    rw [testBit_andn, testBit_andn]
    by_cases h16 : i < 16
    · rw [bit_low h16, bit_low h16]
      cases hm : M.testBit i with
      | true => simp
      | false =>
        have h1 := bits i h16
        rw [hm] at h1
        have hbi : b.testBit i = false := by revert h1; cases b.testBit i <;> simp
        have hdi : d.testBit i = false := by revert h1; cases d.testBit i <;> simp
        have hs : (a + c + e).testBit i = ((a ||| b) + (c ||| d) + e).testBit i := by
          revert h1; rw [hbi, hdi]; cases (a + c + e).testBit i <;> cases ((a ||| b) + (c ||| d) + e).testBit i <;> simp
        rw [carry_sound he hx hy i hbi hdi hs]
    · rw [bit_high h16, bit_high h16]
  · have h16 : i < 16 := by
      by_cases h : i < 16
      · exact h
      · rw [bit_word hMl h] at hi; cases hi
    rw [bits i h16] at hi
    cases hbi : b.testBit i with
    | true =>
      obtain ⟨o1, o2⟩ := one ha h16 hab hbi
      refine ⟨a, c, a + 2 ^ i, c, ⟨ha, hc, self hab, self hcd⟩, ⟨o1, hc, o2, self hcd⟩, ?_⟩
      rw [bit_low h16, bit_low h16, show a + 2 ^ i + c + e = (a + c + e) + 2 ^ i by omega, flip_bit]
      cases (a + c + e).testBit i <;> simp
    | false =>
      cases hdi : d.testBit i with
      | true =>
        obtain ⟨o1, o2⟩ := one hc h16 hcd hdi
        refine ⟨a, c, a, c + 2 ^ i, ⟨ha, hc, self hab, self hcd⟩, ⟨ha, o1, self hab, o2⟩, ?_⟩
        rw [bit_low h16, bit_low h16, show a + (c + 2 ^ i) + e = (a + c + e) + 2 ^ i by omega, flip_bit]
        cases (a + c + e).testBit i <;> simp
      | false =>
        refine ⟨a, c, a ||| b, c ||| d, ⟨ha, hc, self hab, self hcd⟩, ⟨word_or ha hb, word_or hc hd, full hab, full hcd⟩, ?_⟩
        rw [bit_low h16, bit_low h16]
        rw [hbi, hdi] at hi
        intro h
        rw [h] at hi; simp at hi
theorem dep_e (m : Nat) : ∀ (d j out x : Nat), j + d = 16 → out < 65536 → x < 65536 → (∀ i, (m.testBit i = false ∨ i < j) → x.testBit i = out.testBit i) → (∀ i, j ≤ i → m.testBit i = true → out.testBit i = false) →
    ∃ n, n < 2 ^ popc d (m / 2 ^ j) ∧ deposit m d j n out = x
  | 0, j, out, x, hj, ho, hx, h, _ => by
    refine ⟨0, by simp [popc], ?_⟩
    show out = x
    apply Nat.eq_of_testBit_eq; intro i
    by_cases hi : i < 16
    · rw [h i (Or.inr (by omega))]
    · have h1 : 65536 ≤ 2 ^ i := Nat.pow_le_pow_right (n := 2) (show 2 > 0 by decide) (show 16 ≤ i by omega)
      rw [Nat.testBit_lt_two_pow (Nat.lt_of_lt_of_le ho h1), Nat.testBit_lt_two_pow (Nat.lt_of_lt_of_le hx h1)]
  | d + 1, j, out, x, hj, ho, hx, h, hz => by
    have hs : m / 2 ^ j / 2 = m / 2 ^ (j + 1) := by rw [Nat.div_div_eq_div_mul, Nat.pow_succ]
    have hbit : m.testBit j = decide (m / 2 ^ j % 2 = 1) := Nat.testBit_eq_decide_div_mod_eq
    unfold deposit popc
    rw [hs]
    by_cases hb : m.testBit j = true
    · have hone : m / 2 ^ j % 2 = 1 := by rw [hbit] at hb; exact of_decide_eq_true hb
      have hor := add_or ho (by omega) (hz j (Nat.le_refl _) hb)
      have key : ∃ b : Nat, b < 2 ∧ (out + b * 2 ^ j < 65536 ∧ (∀ i, i ≠ j → (out + b * 2 ^ j).testBit i = out.testBit i) ∧ (out + b * 2 ^ j).testBit j = x.testBit j) := by
        cases hxj : x.testBit j with
        | false => exact ⟨0, by omega, by omega, fun i _ => by rw [Nat.zero_mul, Nat.add_zero], by rw [Nat.zero_mul, Nat.add_zero, hz j (Nat.le_refl _) hb]⟩
        | true =>
          refine ⟨1, by omega, ?_, fun i hi => ?_, ?_⟩
          · rw [Nat.one_mul, hor]; exact or_ltp ho (pow15 (by omega))
          · rw [Nat.one_mul, hor, Nat.testBit_or, Nat.testBit_two_pow_of_ne (Ne.symm hi)]; simp
          · rw [Nat.one_mul, hor, Nat.testBit_or, Nat.testBit_two_pow_self]; simp
      obtain ⟨b, hb2, o1, o2, o3⟩ := key
      obtain ⟨n, hn, e⟩ := dep_e m d (j + 1) (out + b * 2 ^ j) x (by omega) o1 hx (fun i hi => by
        by_cases hij : i = j
        · rw [hij, o3]
        · rw [o2 i hij]; exact h i (by rcases hi with hi | hi; exact Or.inl hi; exact Or.inr (by omega))) (fun i hij hm => by rw [o2 i (by omega)]; exact hz i (by omega) hm)
      refine ⟨2 * n + b, ?_, ?_⟩
      · rw [hone, Nat.pow_add]; omega
      · rw [if_pos hb, show (2 * n + b) / 2 = n by omega, show (2 * n + b) % 2 = b by omega]; exact e
    · have hzero : m / 2 ^ j % 2 = 0 := by
        rw [hbit] at hb
        have := of_decide_eq_false (Bool.eq_false_iff.mpr hb); omega
      obtain ⟨n, hn, e⟩ := dep_e m d (j + 1) out x (by omega) ho hx (fun i hi => by
        by_cases hij : i = j
        · rw [hij]; exact h j (Or.inl (Bool.eq_false_iff.mpr hb))
        · exact h i (by rcases hi with hi | hi; exact Or.inl hi; exact Or.inr (by omega))) (fun i hij hm => hz i (by omega) hm)
      refine ⟨n, ?_, ?_⟩
      · rw [hzero, Nat.zero_add]; exact hn
      · rw [if_neg hb]; exact e
theorem numM_enum {v m x : Nat} (hv : v < 65536) (hvm : v &&& m = 0) (hx : x < 65536) (h : andn x m = v) : ∃ n, n < 2 ^ popc 16 m ∧ numM v m n = x := by
  obtain ⟨n, h1, h2⟩ := dep_e m 16 0 v x (by omega) hv hx (fun i hi => (match_bits h i).2.2 (by rcases hi with hi | hi; exact hi; omega)) (fun i _ hi => by have := and_zero_bit hvm i; rw [hi] at this; simpa using this)
  rw [Nat.pow_zero, Nat.div_one] at h1
  exact ⟨n, h1, h2⟩
def KSnd (o a b c d : Int) (r : Int × Int) : Prop := GoodK r.1 r.2 = true ∧ (∀ x y, Mt a b x → Mt c d y → ∃ z, impl_do.f o x y = some z ∧ Mt r.1 r.2 z) ∧
  (o ≤ 2 → ∀ i, r.2.toNat.testBit i = true → ∃ x1 y1 x2 y2 z1 z2, Mt a b x1 ∧ Mt c d y1 ∧ Mt a b x2 ∧ Mt c d y2 ∧ impl_do.f o x1 y1 = some z1 ∧ impl_do.f o x2 y2 = some z2 ∧ z1.toNat.testBit i ≠ z2.toNat.testBit i)
theorem Mt_out {v m x : Int} (h : Mt v m x) (hk : GoodK v m = true) : ∃ v' m' x' : Nat, v = v' ∧ m = m' ∧ x = x' ∧ x' < 65536 ∧ andn x' m' = v' := by
  obtain ⟨v, m, rfl, rfl, hv, hm, hvm⟩ := GoodK_nat hk
  obtain ⟨n, rfl⟩ := Int.eq_ofNat_of_zero_le h.1
  have hn : n < 65536 := by have := h.2.1; omega
  exact ⟨v, m, n, rfl, rfl, rfl, hn, (Mt_nat hm hn).1 h⟩
theorem asa_ {s M : Nat} : andn s M &&& M = 0 := by
  apply Nat.eq_of_testBit_eq; intro i
  rw [Nat.testBit_and, testBit_andn]; simp
theorem known_nat {s M : Nat} (hs : s < 65536) (hM : M < 65536) : impl_known.f (s : Int) (M : Int) = some (((andn s M : Nat) : Int), (M : Int)) := by
  unfold impl_known.f; rw [bits_andNot s M (by omega) (by omega)]
theorem ml (n : Nat) : n % 65536 < 65536 := Nat.mod_lt _ (by decide)
theorem add_snd {a b c d : Nat} (ha : a < 65536) (hb : b < 65536) (hc : c < 65536) (hd : d < 65536) (hab : a &&& b = 0) (hcd : c &&& d = 0) {M : Nat} (hM : M = (b ||| d) ||| (((a + c) % 65536) ^^^ ((a + b + c + d) % 65536))) :
    M < 65536 ∧ KSnd 1 a b c d (((andn ((a + c) % 65536) M : Nat) : Int), (M : Int)) := by
  have hM' : M = (b ||| d) ||| (((a + c + 0) % 65536) ^^^ (((a ||| b) + (c ||| d) + 0) % 65536)) := by
    rw [← or_add ha hb hab, ← or_add hc hd hcd, hM, show a + b + c + d = a + b + (c + d) + 0 by omega]; rfl
  obtain ⟨h1, h2, h3⟩ := sum_known (e := 0) (by omega) ha hb hc hd hab hcd hM'
  have doN : ∀ x y : Nat, x < 65536 → y < 65536 → impl_do.f 1 (x : Int) (y : Int) = some (((x + y + 0) % 65536 : Nat) : Int) := fun x y hx hy => by
    rw [do_add x y (by omega) (by omega)]; rfl
  refine ⟨h1, GoodK_mk (word_andn (ml _)) h1 asa_, fun x y hx hy => ?_, fun _ i hi => ?_⟩
  · obtain ⟨x, rfl⟩ := Int.eq_ofNat_of_zero_le hx.1
    obtain ⟨y, rfl⟩ := Int.eq_ofNat_of_zero_le hy.1
    have hx2 : x < 65536 := by have := hx.2.1; omega
    have hy2 : y < 65536 := by have := hy.2.1; omega
    exact ⟨_, doN x y hx2 hy2, (Mt_nat h1 (ml _)).2 (h2 x y ((Mt_nat hb hx2).1 hx) ((Mt_nat hd hy2).1 hy))⟩
  · obtain ⟨x1, y1, x2, y2, ⟨p1, p2, p3, p4⟩, ⟨q1, q2, q3, q4⟩, hne⟩ := h3 i hi
    exact ⟨x1, y1, x2, y2, _, _, (Mt_nat hb p1).2 p3, (Mt_nat hd p2).2 p4, (Mt_nat hb q1).2 q3, (Mt_nat hd q2).2 q4, doN _ _ p1 p2, doN _ _ q1 q2, hne⟩
def cpl (x : Nat) : Nat := 65535 - x
theorem cpl_bit {x : Nat} (hx : x < 65536) (i : Nat) : (cpl x).testBit i = (decide (i < 16) && !x.testBit i) := by
  unfold cpl
  rw [show (65535 : Nat) - x = 2 ^ 16 - (x + 1) by omega, Nat.testBit_two_pow_sub_succ (by omega)]
theorem cpl_lt (x : Nat) : cpl x < 65536 := by unfold cpl; omega
theorem cpl_match {c d y : Nat} (hy : y < 65536) (hc : c < 65536) (hd : d < 65536) (h : andn y d = c) (h2 : c &&& d = 0) : andn (cpl y) d = cpl (c ||| d) := by
  apply Nat.eq_of_testBit_eq; intro i
  have e2 := and_zero_bit h2 i
  rw [testBit_andn, cpl_bit hy, cpl_bit (word_or hc hd), Nat.testBit_or]
  have e3 : (y.testBit i && !d.testBit i) = c.testBit i := by rw [← testBit_andn, h]
  revert e2 e3
  cases decide (i < 16) <;> cases y.testBit i <;> cases c.testBit i <;> cases d.testBit i <;> simp
theorem cpl_back {c d y : Nat} (hy : y < 65536) (hc : c < 65536) (hd : d < 65536) (hcd : c &&& d = 0) (h : andn y d = cpl (c ||| d)) : andn (cpl y) d = c := by
  apply Nat.eq_of_testBit_eq; intro i
  have e3 : (y.testBit i && !d.testBit i) = (cpl (c ||| d)).testBit i := by rw [← testBit_andn, h]
  rw [cpl_bit (word_or hc hd), Nat.testBit_or] at e3
  have e2 := and_zero_bit hcd i
  rw [testBit_andn, cpl_bit hy]
  by_cases hi : i < 16
  · rw [decide_eq_true hi] at e3 ⊢
    revert e2 e3
    cases y.testBit i <;> cases c.testBit i <;> cases d.testBit i <;> simp
  · rw [decide_eq_false hi, bit_word hc hi]; rfl
theorem sub_snd {a b c d : Nat} (ha : a < 65536) (hb : b < 65536) (hc : c < 65536) (hd : d < 65536) (hab : a &&& b = 0) (hcd : c &&& d = 0) {s M : Nat} (hs : (s : Int) = ((a : Int) - c) % 65536) (hM : M = (b ||| d) ||| (((s + b) % 65536) ^^^ ((s + 65536 - d) % 65536))) :
    M < 65536 ∧ s < 65536 ∧ KSnd 2 a b c d (((andn s M : Nat) : Int), (M : Int)) := by
  have hc' := cpl_lt (c ||| d)
  have hz : cpl (c ||| d) &&& d = 0 := by
    apply Nat.eq_of_testBit_eq; intro i
    rw [Nat.testBit_and, cpl_bit (word_or hc hd), Nat.testBit_or, Nat.zero_testBit]
    cases decide (i < 16) <;> cases c.testBit i <;> cases d.testBit i <;> rfl
  have hcd2 := or_add hc hd hcd
  have hor : cpl (c ||| d) + d = cpl c := by rw [← hcd2]; have := word_or hc hd; rw [← hcd2] at this; unfold cpl; omega
  have hor2 : cpl (c ||| d) ||| d = cpl c := by rw [← or_add hc' hd hz, hor]
  have hM' : M = (b ||| d) ||| (((a + cpl (c ||| d) + 1) % 65536) ^^^ (((a ||| b) + (cpl (c ||| d) ||| d) + 1) % 65536)) := by
    rw [hM, hor2, ← or_add ha hb hab]
    have e1 : (a + cpl (c ||| d) + 1) % 65536 = (s + 65536 - d) % 65536 := by
      have := word_or hc hd; rw [← hcd2] at this ⊢; unfold cpl; omega
    have e2 : (a + b + cpl c + 1) % 65536 = (s + b) % 65536 := by unfold cpl; omega
    rw [e1, e2, Nat.xor_comm ((s + 65536 - d) % 65536)]
  obtain ⟨h1, h2, h3⟩ := sum_known (e := 1) (by omega) ha hb hc' hd hab hz hM'
  have doN : ∀ x y : Nat, x < 65536 → y < 65536 → impl_do.f 2 (x : Int) (y : Int) = some (((x + cpl y + 1) % 65536 : Nat) : Int) := fun x y hx hy => by
    rw [do_sub x y (by omega) (by omega)]; congr 1; unfold cpl; omega
  have fwd : ∀ y, y < 65536 → andn y d = c → andn (cpl y) d = cpl (c ||| d) := fun y hy h => cpl_match hy hc hd h hcd
  have es : s = (a + cpl c + 1) % 65536 := by unfold cpl; omega
  have ev : andn s M = andn ((a + cpl (c ||| d) + 1) % 65536) M := by rw [es]; exact h2 a (cpl c) (self hab) (fwd c hc (self hcd))
  refine ⟨h1, by omega, ?_⟩
  rw [ev]
  refine ⟨GoodK_mk (word_andn (ml _)) h1 asa_, fun x y hx hy => ?_, fun _ i hi => ?_⟩
  · obtain ⟨x, rfl⟩ := Int.eq_ofNat_of_zero_le hx.1
    obtain ⟨y, rfl⟩ := Int.eq_ofNat_of_zero_le hy.1
    have hx2 : x < 65536 := by have := hx.2.1; omega
    have hy2 : y < 65536 := by have := hy.2.1; omega
    exact ⟨_, doN x y hx2 hy2, (Mt_nat h1 (ml _)).2 (h2 x (cpl y) ((Mt_nat hb hx2).1 hx) (fwd y hy2 ((Mt_nat hd hy2).1 hy)))⟩
  · obtain ⟨x1, y1, x2, y2, ⟨p1, p2, p3, p4⟩, ⟨q1, q2, q3, q4⟩, hne⟩ := h3 i hi
    have cc : ∀ y, y < 65536 → cpl (cpl y) = y := fun y hy => by unfold cpl; omega
    refine ⟨x1, (cpl y1 : Nat), x2, (cpl y2 : Nat), _, _, (Mt_nat hb p1).2 p3, (Mt_nat hd (cpl_lt _)).2 (cpl_back p2 hc hd hcd p4), (Mt_nat hb q1).2 q3, (Mt_nat hd (cpl_lt _)).2 (cpl_back q2 hc hd hcd q4), doN _ _ p1 (cpl_lt _), doN _ _ q1 (cpl_lt _), ?_⟩
    rw [cc y1 p2, cc y2 q2]; exact hne
theorem word_nat {u : Int} (h0 : 0 ≤ u) (h1 : u ≤ 65535) : ∃ m : Nat, u = (m : Int) ∧ m < 65536 := ⟨u.toNat, by omega, by omega⟩
theorem do_word {o x y : Int} (ho : 1 ≤ o ∧ o ≤ 10) (hx : 0 ≤ x ∧ x ≤ 65535) (hy : 0 ≤ y ∧ y ≤ 65535) : ∃ z, impl_do.f o x y = some z ∧ 0 ≤ z ∧ z ≤ 65535 := by
  obtain ⟨n, hn, t, _⟩ := shift_lo hy.1 hy.2
  have hcase : o = 1 ∨ o = 2 ∨ o = 3 ∨ o = 4 ∨ o = 5 ∨ o = 6 ∨ o = 7 ∨ o = 8 ∨ o = 9 ∨ o = 10 := by omega
  rcases hcase with rfl | rfl | rfl | rfl | rfl | rfl | rfl | rfl | rfl | rfl
  · exact ⟨_, do_add x y hx hy, by omega, by omega⟩
  · exact ⟨_, do_sub x y hx hy, by omega, by omega⟩
  · exact ⟨_, do_mul x y hx hy, by omega, by omega⟩
  · have := Int.ediv_le_self y hx.1
    exact ⟨_, do_div x y hx hy, Int.ediv_nonneg hx.1 hy.1, by omega⟩
  · refine ⟨_, do_mod x y hx hy, ?_⟩
    by_cases hv : y = 0
    · rw [hv, Int.emod_zero]; exact hx
    · have := Int.emod_nonneg x hv
      have := Int.emod_lt_of_pos x (show 0 < y by omega)
      omega
  all_goals
    obtain ⟨p, rfl, hp⟩ := word_nat hx.1 hx.2
    obtain ⟨q, rfl, hq⟩ := word_nat hy.1 hy.2
  · refine ⟨_, do_and .., ?_⟩
    rw [bits_and p q (by omega) (by omega)]
    have h5 : p &&& q ≤ p := Nat.and_le_left
    omega
  · refine ⟨_, do_or .., ?_⟩
    rw [bits_or p q (by omega) (by omega)]
    have := word_or hp hq; omega
  · refine ⟨_, do_xor .., ?_⟩
    rw [bits_xor p q (by omega) (by omega)]
    have := word_xor hp hq; omega
  · exact ⟨_, do_shl _ _ n hn t hx, by omega, by omega⟩
  · obtain ⟨p1, _⟩ := pow_word hn
    have := Int.ediv_le_self ((2 ^ n : Nat) : Int) hx.1
    exact ⟨_, do_shr 10 _ _ n hn t (by omega), Int.ediv_nonneg hx.1 (by omega), by omega⟩
theorem unknown_snd {o a b c d : Int} (ho : 3 ≤ o ∧ o ≤ 10) : KSnd o a b c d (0, 65535) := by
  refine ⟨by decide, fun x y hx hy => ?_, fun h => absurd h (by omega)⟩
  obtain ⟨z, e, z0, z1⟩ := do_word (o := o) (by omega) ⟨hx.1, hx.2.1⟩ ⟨hy.1, hy.2.1⟩
  obtain ⟨n, rfl, hn⟩ := word_nat z0 z1
  refine ⟨_, e, ?_⟩
  show Mt ((0 : Nat) : Int) ((65535 : Nat) : Int) (n : Int)
  refine (Mt_nat (by decide) hn).2 ?_
  apply Nat.eq_of_testBit_eq; intro i
  rw [testBit_andn, Nat.zero_testBit]
  by_cases hi : i < 16
  · rw [show (65535 : Nat) = 2 ^ 16 - 1 from rfl, Nat.testBit_two_pow_sub_one, decide_eq_true hi]; simp
  · rw [bit_word hn hi]; rfl
theorem andn_zero (x : Nat) : andn x 0 = x := by
  apply Nat.eq_of_testBit_eq; intro i
  rw [testBit_andn]; simp
theorem Mt_exact {v x : Int} (h : Mt v 0 x) : x = v := by
  obtain ⟨n, rfl, hn⟩ := word_nat h.1 h.2.1
  have e := h.2.2
  rw [show (0 : Int) = ((0 : Nat) : Int) from rfl, bits_andNot n 0 (by omega) (by omega), andn_zero] at e
  exact e
theorem exact_snd {o a c z : Int} (ho : 3 ≤ o ∧ o ≤ 10) (ha : 0 ≤ a ∧ a ≤ 65535) (hc : 0 ≤ c ∧ c ≤ 65535) (e : impl_do.f o a c = some z) : KSnd o a 0 c 0 (z, 0) := by
  obtain ⟨z', e', z0, z1⟩ := do_word (o := o) (by omega) ha hc
  rw [e] at e'
  obtain rfl := Option.some.inj e'
  obtain ⟨n, rfl, hn⟩ := word_nat z0 z1
  refine ⟨GoodK_mk (b := 0) hn (by decide) (by simp), fun x y hx hy => ?_, fun h => absurd h (by omega)⟩
  rw [Mt_exact hx, Mt_exact hy]
  exact ⟨_, e, (Mt_nat (b := 0) (by decide) hn).2 (andn_zero n)⟩
theorem move_snd {f : Nat → Nat} {p : Nat → Bool} {q : Nat → Nat} (hf : ∀ x i, x < 65536 → (f x).testBit i = (p i && x.testBit (q i))) (hl : ∀ x, x < 65536 → f x < 65536) {a b : Nat} (ha : a < 65536) (hb : b < 65536) (hab : a &&& b = 0) :
    GoodK (f a : Nat) (f b : Nat) = true ∧ ∀ x, x < 65536 → andn x b = a → Mt (f a : Nat) (f b : Nat) (f x : Nat) := by
  refine ⟨GoodK_mk (hl a ha) (hl b hb) ?_, fun x hx h => (Mt_nat (hl b hb) (hl x hx)).2 ?_⟩
  · apply Nat.eq_of_testBit_eq; intro i
    have := and_zero_bit hab (q i)
    rw [Nat.testBit_and, hf a i ha, hf b i hb, Nat.zero_testBit]
    revert this; cases p i <;> cases a.testBit (q i) <;> cases b.testBit (q i) <;> simp
  · apply Nat.eq_of_testBit_eq; intro i
    have e3 : (x.testBit (q i) && !b.testBit (q i)) = a.testBit (q i) := by rw [← testBit_andn, h]
    rw [testBit_andn, hf x i hx, hf a i ha, hf b i hb]
    revert e3; cases p i <;> cases x.testBit (q i) <;> cases a.testBit (q i) <;> cases b.testBit (q i) <;> simp
theorem shift_snd {o a b c r1 r2 : Int} (ho : o = 9 ∨ o = 10) (hab : GoodK a b = true) (hc : 0 ≤ c ∧ c ≤ 65535) (e1 : impl_do.f o a c = some r1) (e2 : impl_do.f o b c = some r2) : KSnd o a b c 0 (r1, r2) := by
  obtain ⟨a, b, rfl, rfl, ha, hb, hz⟩ := GoodK_nat hab
  obtain ⟨n, hn, t, _⟩ := shift_lo hc.1 hc.2
  rcases ho with rfl | rfl
  · have doN : ∀ x : Nat, x < 65536 → impl_do.f 9 (x : Int) c = some ((x * 2 ^ n % 65536 : Nat) : Int) := fun x hx => by
      rw [do_shl x c n hn t (by omega)]; rfl
    obtain ⟨g, hm⟩ := move_snd (f := fun x => x * 2 ^ n % 65536) (p := fun i => decide (i < 16) && decide (n ≤ i)) (q := fun i => i - n) (fun x i hx => by
      show (x * 2 ^ n % 65536).testBit i = _
      rw [show (65536 : Nat) = 2 ^ 16 from rfl, Nat.testBit_mod_two_pow, Nat.testBit_mul_two_pow, Bool.and_assoc]) (fun x hx => Nat.mod_lt _ (by decide)) ha hb hz
    rw [doN a ha] at e1; rw [doN b hb] at e2
    obtain rfl := Option.some.inj e1
    obtain rfl := Option.some.inj e2
    refine ⟨g, fun x y hx hy => ?_, fun h => absurd h (by omega)⟩
    obtain ⟨x, rfl, hx2⟩ := word_nat hx.1 hx.2.1
    rw [Mt_exact hy]
    exact ⟨_, doN x hx2, hm x hx2 ((Mt_nat hb hx2).1 hx)⟩
  · have doN : ∀ x : Nat, x < 65536 → impl_do.f 10 (x : Int) c = some ((x / 2 ^ n : Nat) : Int) := fun x hx => by
      rw [do_shr 10 x c n hn t (by omega)]; rfl
    obtain ⟨g, hm⟩ := move_snd (f := fun x => x / 2 ^ n) (p := fun _ => true) (q := fun i => i + n) (fun x i hx => by
      show (x / 2 ^ n).testBit i = _
      rw [Nat.testBit_div_two_pow]; rfl) (fun x hx => Nat.lt_of_le_of_lt (Nat.div_le_self _ _) hx) ha hb hz
    rw [doN a ha] at e1; rw [doN b hb] at e2
    obtain rfl := Option.some.inj e1
    obtain rfl := Option.some.inj e2
    refine ⟨g, fun x y hx hy => ?_, fun h => absurd h (by omega)⟩
    obtain ⟨x, rfl, hx2⟩ := word_nat hx.1 hx.2.1
    rw [Mt_exact hy]
    exact ⟨_, doN x hx2, hm x hx2 ((Mt_nat hb hx2).1 hx)⟩
theorem bits_snd (o : Int) (ho : o = 6 ∨ o = 7 ∨ o = 8) {a b c d : Int} (h1 : GoodK a b = true) (h2 : GoodK c d = true) : ∃ r, spec_l10Bits.f o a b c d = some r ∧ Ev (fun k => impl_bitwise.f k o a b c d) r ∧ KSnd o a b c d r := by
  obtain ⟨r, e1, e2⟩ := bits_ev o ho h1 h2
  refine ⟨r, e1, e2, ?_⟩
  obtain ⟨a, b, rfl, rfl, ha, hb, hab⟩ := GoodK_nat h1
  obtain ⟨c, d, rfl, rfl, hc, hd, hcd⟩ := GoodK_nat h2
  have lt : ∀ {t0 t1 t2 t3 : Nat}, bwZ t3 (bwZ t2 (bwZ t1 (bwZ t0 0 (mayN a b 0 &&& mayN c d 0)) (mayN a b 0 &&& mayN c d 1)) (mayN a b 1 &&& mayN c d 0)) (mayN a b 1 &&& mayN c d 1) < 65536 ∧ bwS t3 (bwS t2 (bwS t1 (bwS t0 0 (mayN a b 0 &&& mayN c d 0)) (mayN a b 0 &&& mayN c d 1)) (mayN a b 1 &&& mayN c d 0)) (mayN a b 1 &&& mayN c d 1) < 65536 := by
    intro t0 t1 t2 t3
    have k := fun x y : Nat => word_and (b := mayN c d y) (mayN_lt (x := x) ha hb)
    exact ⟨bwZ_lt (bwZ_lt (bwZ_lt (bwZ_lt (by decide) (k 0 0)) (k 0 1)) (k 1 0)) (k 1 1), bwS_lt (bwS_lt (bwS_lt (bwS_lt (by decide) (k 0 0)) (k 0 1)) (k 1 0)) (k 1 1)⟩
  have full : ∀ i, i < 16 → Nat.testBit 65535 i = true := fun i hi => by rw [show (65535 : Nat) = 2 ^ 16 - 1 from rfl, Nat.testBit_two_pow_sub_one, decide_eq_true hi]
  rcases ho with rfl | rfl | rfl
  · obtain rfl := Ev.one e2 (bw_ev (o := 6) (t0 := 0) (t1 := 0) (t2 := 0) (t3 := 1) ha hb hc hd (by decide) (by decide) (by decide) (by decide))
    obtain ⟨l1, l2⟩ := lt (t0 := 0) (t1 := 0) (t2 := 0) (t3 := 1)
    refine ⟨GoodK_mk (word_andn l2) (word_and l1) asa_, fun x y hx hy => ?_, fun h => absurd h (by omega)⟩
    obtain ⟨x, rfl, hx2⟩ := word_nat hx.1 hx.2.1
    obtain ⟨y, rfl, hy2⟩ := word_nat hy.1 hy.2.1
    refine ⟨_, (do_and ..).trans (by rw [bits_and x y (by omega) (by omega)]), (Mt_nat (word_and l1) (word_and hx2)).2 ?_⟩
    have mx := (Mt_nat hb hx2).1 hx
    have my := (Mt_nat hd hy2).1 hy
    apply Nat.eq_of_testBit_eq; intro i
    by_cases hi : i < 16
    · have k1 := and_zero_bit hab i
      have k2 := and_zero_bit hcd i
      have e3 : (x.testBit i && !b.testBit i) = a.testBit i := by rw [← testBit_andn, mx]
      have e4 : (y.testBit i && !d.testBit i) = c.testBit i := by rw [← testBit_andn, my]
      simp only [bwZ, bwS, mayN, testBit_andn, Nat.testBit_or, Nat.testBit_and, full i hi, if_true, if_false, Nat.zero_testBit, reduceIte, Nat.reduceEqDiff, Nat.zero_ne_one, Nat.one_ne_zero]
      revert k1 k2 e3 e4
      cases a.testBit i <;> cases b.testBit i <;> cases c.testBit i <;> cases d.testBit i <;> cases x.testBit i <;> cases y.testBit i <;> simp
    · rw [testBit_andn, testBit_andn, bit_word (word_and hx2) hi, bit_word l2 hi]
  · obtain rfl := Ev.one e2 (bw_ev (o := 7) (t0 := 0) (t1 := 1) (t2 := 1) (t3 := 1) ha hb hc hd (by decide) (by decide) (by decide) (by decide))
    obtain ⟨l1, l2⟩ := lt (t0 := 0) (t1 := 1) (t2 := 1) (t3 := 1)
    refine ⟨GoodK_mk (word_andn l2) (word_and l1) asa_, fun x y hx hy => ?_, fun h => absurd h (by omega)⟩
    obtain ⟨x, rfl, hx2⟩ := word_nat hx.1 hx.2.1
    obtain ⟨y, rfl, hy2⟩ := word_nat hy.1 hy.2.1
    refine ⟨_, (do_or ..).trans (by rw [bits_or x y (by omega) (by omega)]), (Mt_nat (word_and l1) (word_or hx2 hy2)).2 ?_⟩
    have mx := (Mt_nat hb hx2).1 hx
    have my := (Mt_nat hd hy2).1 hy
    apply Nat.eq_of_testBit_eq; intro i
    by_cases hi : i < 16
    · have k1 := and_zero_bit hab i
      have k2 := and_zero_bit hcd i
      have e3 : (x.testBit i && !b.testBit i) = a.testBit i := by rw [← testBit_andn, mx]
      have e4 : (y.testBit i && !d.testBit i) = c.testBit i := by rw [← testBit_andn, my]
      simp only [bwZ, bwS, mayN, testBit_andn, Nat.testBit_or, Nat.testBit_and, full i hi, if_true, if_false, Nat.zero_testBit, reduceIte, Nat.reduceEqDiff, Nat.zero_ne_one, Nat.one_ne_zero]
      revert k1 k2 e3 e4
      cases a.testBit i <;> cases b.testBit i <;> cases c.testBit i <;> cases d.testBit i <;> cases x.testBit i <;> cases y.testBit i <;> simp
    · rw [testBit_andn, testBit_andn, bit_word (word_or hx2 hy2) hi, bit_word l2 hi]
  · obtain rfl := Ev.one e2 (bw_ev (o := 8) (t0 := 0) (t1 := 1) (t2 := 1) (t3 := 0) ha hb hc hd (by decide) (by decide) (by decide) (by decide))
    obtain ⟨l1, l2⟩ := lt (t0 := 0) (t1 := 1) (t2 := 1) (t3 := 0)
    refine ⟨GoodK_mk (word_andn l2) (word_and l1) asa_, fun x y hx hy => ?_, fun h => absurd h (by omega)⟩
    obtain ⟨x, rfl, hx2⟩ := word_nat hx.1 hx.2.1
    obtain ⟨y, rfl, hy2⟩ := word_nat hy.1 hy.2.1
    refine ⟨_, (do_xor ..).trans (by rw [bits_xor x y (by omega) (by omega)]), (Mt_nat (word_and l1) (word_xor hx2 hy2)).2 ?_⟩
    have mx := (Mt_nat hb hx2).1 hx
    have my := (Mt_nat hd hy2).1 hy
    apply Nat.eq_of_testBit_eq; intro i
    by_cases hi : i < 16
    · have k1 := and_zero_bit hab i
      have k2 := and_zero_bit hcd i
      have e3 : (x.testBit i && !b.testBit i) = a.testBit i := by rw [← testBit_andn, mx]
      have e4 : (y.testBit i && !d.testBit i) = c.testBit i := by rw [← testBit_andn, my]
      simp only [bwZ, bwS, mayN, testBit_andn, Nat.testBit_or, Nat.testBit_and, Nat.testBit_xor, full i hi, if_true, if_false, Nat.zero_testBit, reduceIte, Nat.reduceEqDiff, Nat.zero_ne_one, Nat.one_ne_zero]
      revert k1 k2 e3 e4
      cases a.testBit i <;> cases b.testBit i <;> cases c.testBit i <;> cases d.testBit i <;> cases x.testBit i <;> cases y.testBit i <;> simp
    · rw [testBit_andn, testBit_andn, bit_word (word_xor hx2 hy2) hi, bit_word l2 hi]
theorem kS_j1 (o : Int) (ho : 3 ≤ o ∧ o ≤ 10) (x : Bool) (hx : x = true → o = 9 ∨ o = 10) {a b c d : Int} (h1 : GoodK a b = true) (h2 : GoodK c d = true) : Both (KSnd o a b c d) (fun k => spec_l10Do.j1 k o x a b c d) (fun k => impl_doKnown.j1 k o x a b c d) := by
  obtain ⟨a', b', ha0, hb0, ha, hb, _⟩ := GoodK_nat h1
  obtain ⟨c', d', hc0, hd0, hc, hd, _⟩ := GoodK_nat h2
  obtain ⟨r1, e1⟩ := spec_l1Do_some o a c (by omega) (by omega)
  obtain ⟨r2, e2⟩ := spec_l1Do_some o b c (by omega) (by omega)
  have f1 := (do_eq o a c (by omega) (by omega)).trans e1
  have f2 := (do_eq o b c (by omega) (by omega)).trans e2
  refine Both.stepL (fun k => spec_l10Do.j1.eq_2 ..) (Both.stepR (fun k => impl_doKnown.j1.eq_2 ..) (Both.ite (fun h9 => ?_) (fun _ => ?_)))
  · refine Both.ite (fun hd => ?_) (fun _ => ?_)
    · exact Both.bindEL e1 (Both.bindEL e2 (Both.bindER f1 (Both.bindER f2 (Both.now _ (by rw [hd]; exact shift_snd (hx h9) h1 (by omega) f1 f2)))))
    · by_cases hb : b = 0
      · exact Both.posL hb (Both.now (0, 65535) (unknown_snd ho))
      · exact Both.negL hb (Both.now (0, 65535) (unknown_snd ho))
  · refine Both.ite (fun hb => ?_) (fun hb => ?_)
    · refine Both.stepR (fun k => impl_doKnown.j2.eq_2 ..) ?_
      by_cases hd : d = 0
      · exact Both.posL hd (Both.posR (by rw [hd]; rfl) (Both.bindEL e1 (Both.bindER f1 (Both.now (r1, 0) (by rw [hb, hd]; exact exact_snd ho (by omega) (by omega) f1)))))
      · exact Both.negL hd (Both.negR (by rw [beq_iff_eq]; exact hd) (Both.now (0, 65535) (unknown_snd ho)))
    · exact Both.stepR (fun k => impl_doKnown.j2.eq_2 ..) (Both.negR (by simp) (Both.now (0, 65535) (unknown_snd ho)))
theorem kS_j0 (o : Int) (ho : 1 ≤ o ∧ o ≤ 10) (x : Bool) (hx : x = true ↔ o = 6 ∨ o = 7 ∨ o = 8) {a b c d : Int} (h1 : GoodK a b = true) (h2 : GoodK c d = true) : Both (KSnd o a b c d) (fun k => spec_l10Do.j0 k o o x a b c d) (fun k => impl_doKnown.j0 k o o x a b c d) := by
  refine Both.stepL (fun k => spec_l10Do.j0.eq_2 ..) (Both.stepR (fun k => impl_doKnown.j0.eq_2 ..) (Both.ite (fun h => ?_) (fun hn => ?_)))
  · obtain ⟨r, e1, e2, hs⟩ := bits_snd o (hx.1 h) h1 h2
    exact Both.bindEL e1 (Both.bindR e2 (Both.now _ hs))
  have hn' : ¬ (o = 6 ∨ o = 7 ∨ o = 8) := fun h => hn (hx.2 h)
  refine Both.ite (fun h => ?_) (fun ho1 => ?_)
  · subst h
    obtain ⟨a, b, rfl, rfl, ha, hb, hab⟩ := GoodK_nat h1
    obtain ⟨c, d, rfl, rfl, hc, hd, hcd⟩ := GoodK_nat h2
    refine Both.bindEL (spec_l1Wrap_eq ..) (Both.bindER (impl_WordOf_eq ..) ?_)
    refine Both.bindEL (spec_l1Wrap_eq ..) (Both.bindER (impl_WordOf_eq ..) ?_)
    have w1 : wrap64 ((a : Int) + c) % 65536 = (((a + c) % 65536 : Nat) : Int) := by rw [wrap_id _ (by omega) (by omega)]; omega
    have w2 : wrap64 (wrap64 (wrap64 ((a : Int) + b) + c) + d) % 65536 = (((a + b + c + d) % 65536 : Nat) : Int) := by
      rw [wrap_id ((a : Int) + b) (by omega) (by omega), wrap_id ((a : Int) + b + c) (by omega) (by omega), wrap_id _ (by omega) (by omega)]; omega
    rw [w1, w2]; clear w1 w2
    obtain ⟨hM, hs⟩ := add_snd ha hb hc hd hab hcd rfl
    have hx1 := word_xor (ml (a + c)) (ml (a + b + c + d))
    have ho1 := word_or hb hd
    have m1 := ml (a + c)
    have m2 := ml (a + b + c + d)
    rw [bits_or b d (by omega) (by omega), bits_xor _ _ (by omega) (by omega), bits_or _ _ (by omega) (by omega)]
    refine Both.bindER (known_nat m1 hM) (Both.bindEL (a := (((andn ((a + c) % 65536) _ : Nat) : Int), _)) ?_ (Both.now _ hs))
    exact known_nat m1 hM
  refine Both.ite (fun h => ?_) (fun ho2 => ?_)
  · subst h
    obtain ⟨a, b, rfl, rfl, ha, hb, hab⟩ := GoodK_nat h1
    obtain ⟨c, d, rfl, rfl, hc, hd, hcd⟩ := GoodK_nat h2
    refine Both.bindEL (spec_l1Wrap_eq ..) (Both.bindER (impl_WordOf_eq ..) ?_)
    refine Both.bindEL (spec_l1Wrap_eq ..) (Both.bindER (impl_WordOf_eq ..) ?_)
    refine Both.bindEL (spec_l1Wrap_eq ..) (Both.bindER (impl_WordOf_eq ..) ?_)
    rw [wrap_id ((a : Int) - c) (by omega) (by omega)]
    obtain ⟨s, hs, hs2⟩ := word_nat (u := ((a : Int) - c) % 65536) (by omega) (by omega)
    rw [hs]
    have w2 : wrap64 ((s : Int) + b) % 65536 = (((s + b) % 65536 : Nat) : Int) := by rw [wrap_id _ (by omega) (by omega)]; omega
    have w3 : wrap64 ((s : Int) - d) % 65536 = (((s + 65536 - d) % 65536 : Nat) : Int) := by rw [wrap_id _ (by omega) (by omega)]; omega
    rw [w2, w3]; clear w2 w3
    obtain ⟨hM, _, hk⟩ := sub_snd ha hb hc hd hab hcd hs.symm rfl
    have hx1 := word_xor (ml (s + b)) (ml (s + 65536 - d))
    have ho1 := word_or hb hd
    have m1 := ml (s + b)
    have m2 := ml (s + 65536 - d)
    rw [bits_or b d (by omega) (by omega), bits_xor _ _ (by omega) (by omega), bits_or _ _ (by omega) (by omega)]
    refine Both.bindER (known_nat hs2 hM) (Both.bindEL (a := (((andn s _ : Nat) : Int), _)) ?_ (Both.now _ hk))
    exact known_nat hs2 hM
  have ho3 : 3 ≤ o ∧ o ≤ 10 := by omega
  exact Both.ite (fun h => kS_j1 o ho3 _ (fun h9 => Or.inl h) h1 h2) (fun _ => kS_j1 o ho3 _ (fun h9 => Or.inr (beq_iff_eq.1 h9)) h1 h2)
theorem kS_ev (o : Int) (ho : 1 ≤ o ∧ o ≤ 10) {a b c d : Int} (h1 : GoodK a b = true) (h2 : GoodK c d = true) : Both (KSnd o a b c d) (fun k => spec_l10Do.f k o a b c d) (fun k => impl_doKnown.f k o a b c d) := by
  unfold spec_l10Do.f impl_doKnown.f
  exact Both.ite (fun h => kS_j0 o ho _ ⟨fun _ => Or.inl h, fun _ => beq_iff_eq.2 h⟩ h1 h2) (fun n6 => Both.ite (fun h => kS_j0 o ho _ ⟨fun _ => Or.inr (Or.inl h), fun _ => beq_iff_eq.2 h⟩ h1 h2) (fun n7 => kS_j0 o ho _ ⟨fun h => Or.inr (Or.inr (beq_iff_eq.1 h)), fun h => beq_iff_eq.2 (by omega)⟩ h1 h2))
theorem dkc_ (o a b c d : Int) : (∃ r : Int × Int, Ev (fun k => spec_DoKnown.f k o a b c d) (r.1, r.2, true) ∧ Ev (fun k => impl_DoKnown.f k o a b c d) (r.1, r.2, true) ∧ (1 ≤ o ∧ o ≤ 10) ∧ GoodK a b = true ∧ GoodK c d = true ∧ KSnd o a b c d r) ∨
    (Ev (fun k => spec_DoKnown.f k o a b c d) (0, 0, false) ∧ Ev (fun k => impl_DoKnown.f k o a b c d) (0, 0, false)) := by
  unfold spec_DoKnown.f impl_DoKnown.f
  by_cases h0 : In o 1 10 = true
  · by_cases h1 : GoodK a b = true
    · by_cases h2 : GoodK c d = true
      · left
        obtain ⟨r, e1, e2, hs⟩ := kS_ev o (In_true.1 h0) h1 h2
        refine ⟨r, ?_, ?_, In_true.1 h0, h1, h2, hs⟩
        · exact Ev.bindE (spec_l1In_eq ..) <| Ev.pos h0 <| Ev.bindE (spec_GoodKnown_eq ..) <| Ev.pos h1 <| Ev.bindE (spec_GoodKnown_eq ..) <| Ev.pos h2 <| Ev.bind e1 (Ev.now _)
        · exact Ev.bindE (impl_isOp_eq ..) <| Ev.pos h0 <| Ev.bindE (impl_bothKnown_eq ..) <| Ev.pos (by rw [h1, h2]; rfl) <| Ev.bind e2 (Ev.now _)
      · right
        exact ⟨Ev.bindE (spec_l1In_eq ..) <| Ev.pos h0 <| Ev.bindE (spec_GoodKnown_eq ..) <| Ev.pos h1 <| Ev.bindE (spec_GoodKnown_eq ..) <| Ev.neg h2 (Ev.now _),
          Ev.bindE (impl_isOp_eq ..) <| Ev.pos h0 <| Ev.bindE (impl_bothKnown_eq ..) <| Ev.neg (by rw [Bool.and_eq_true]; exact fun h => h2 h.2) (Ev.now _)⟩
    · right
      exact ⟨Ev.bindE (spec_l1In_eq ..) <| Ev.pos h0 <| Ev.bindE (spec_GoodKnown_eq ..) <| Ev.neg h1 (Ev.now _),
        Ev.bindE (impl_isOp_eq ..) <| Ev.pos h0 <| Ev.bindE (impl_bothKnown_eq ..) <| Ev.neg (by rw [Bool.and_eq_true]; exact fun h => h1 h.1) (Ev.now _)⟩
  · right
    exact ⟨Ev.bindE (spec_l1In_eq ..) <| Ev.neg h0 (Ev.now _), Ev.bindE (impl_isOp_eq ..) <| Ev.neg h0 (Ev.now _)⟩
theorem NumberAt_ev (a b n : Int) : ∃ r, Ev (fun k => spec_NumberAt.f k a b n) r ∧ Ev (fun k => impl_NumberAt.f k a b n) r := by
  cases h : GoodK a b with
  | false => exact ⟨_, numberAt_bad a b n h⟩
  | true =>
    obtain ⟨a, b, rfl, rfl, ha, hb, hab⟩ := GoodK_nat h
    by_cases hn : 0 ≤ n ∧ n < ((2 ^ popc 16 b : Nat) : Int)
    · obtain ⟨m, rfl⟩ := Int.eq_ofNat_of_zero_le hn.1
      exact ⟨_, numberAt_in a b m h hb ha hab (by omega)⟩
    · exact ⟨_, numberAt_out a b n h hb hn⟩
theorem WaysOf_ev (a b : Int) : ∃ r, impl_WaysOf.f a b = some r ∧ Ev (fun k => spec_WaysOf.f k a b) r := by
  cases h : GoodK a b with
  | false => exact ⟨_, impl_WaysOf_bad a b h, spec_WaysOf_bad a b h⟩
  | true =>
    obtain ⟨a, b, rfl, rfl, ha, hb, hab⟩ := GoodK_nat h
    exact ⟨_, impl_WaysOf_eq a b h hb, spec_WaysOf_ev a b h hb⟩
theorem dmb_ {l : List Int} (hl : Bytes l) (x : Bool) (a s u v : Int) (h0 : 0 ≤ a) (h1 : a ≤ 1000000) (hx : x = true → GoodK u v = true) : EvP (fun k => spec_DrawMayBe.j0 k x l a s u v) (fun _ => True) := by
  refine EvP.step (fun k => spec_DrawMayBe.j0.eq_2 ..) (EvP.ite (fun hc => ?_) (fun _ => ?_))
  · obtain ⟨u, v, rfl, rfl, hu, hv, huv⟩ := GoodK_nat (hx hc)
    refine EvP.bindE (pick_ok hl a s 16 h0 (by omega)) fun p hp => EvP.bind (P := fun _ => True) ?_ fun q _ => EvP.now _ trivial
    obtain ⟨n, hn⟩ := Int.eq_ofNat_of_zero_le (show 0 ≤ p.1 by omega)
    rw [hn]
    exact ⟨_, (numberAt_loop u v hv 16 0 n u (by omega) hu (by omega) (fun i _ hi => by have := and_zero_bit huv i; rw [hi] at this; simpa using this)).1, trivial⟩
  · exact EvP.bindE (rawWord_ok hl _ _ (by omega) (by omega)) fun q hq => EvP.now _ trivial
theorem drawMayBe_ok {l : List Int} (hl : Bytes l) : EvP (fun k => spec_DrawMayBe.f k l) (fun _ => True) := by
  unfold spec_DrawMayBe.f
  refine EvP.bind (known_ok hl 0 0 (by omega) (by omega)) fun p hp => EvP.bindE (P := fun t => t = GoodK p.1 p.2.1) ⟨_, spec_GoodKnown_eq .., rfl⟩ fun t ht => EvP.ite (fun hc => ?_) (fun _ => ?_)
  · exact EvP.bindE (one_ok hl _ _ 2 (by omega) (by omega)) fun q hq => dmb_ hl _ _ _ _ _ (by omega) (by omega) (fun _ => by rw [← ht]; exact hc)
  · exact dmb_ hl _ _ _ _ _ (by omega) (by omega) (fun h => by cases h)
theorem j7_ok {l : List Int} (hl : Bytes l) : Ev (fun k => laws_FnKnown.j7 k l) true := by
  have h : EvP (fun k => spec_DrawNumberAt.f k l) (fun _ => True) := by
    unfold spec_DrawNumberAt.f
    exact EvP.bind (known_ok hl 0 0 (by omega) (by omega)) fun p hp => EvP.bindE (pick_ok hl _ _ 18 (by omega) (by omega)) fun q hq => EvP.now _ trivial
  obtain ⟨⟨a, b, n⟩, e, _⟩ := h
  obtain ⟨⟨c, d, z⟩, e2, _⟩ := drawMayBe_ok hl
  obtain ⟨r, n1, n2⟩ := NumberAt_ev a b n
  obtain ⟨w, w1, w2⟩ := WaysOf_ev c d
  refine Ev.step (fun k => laws_FnKnown.j7.eq_2 ..) ?_
  exact Ev.bind e <| Ev.bind n2 <| Ev.bind n1 <| Ev.bind e2 <| Ev.bindE (impl_MayBe_eq ..) <| Ev.bindE (spec_MayBe_eq ..) <| Ev.bindE w1 <| Ev.bind w2 <| Ev.pos (by simp) <| Ev.pos rfl <| Ev.pos (by simp) <| Ev.pos (by simp) <| Ev.pos (by simp) <| Ev.at_ (Ev.now _) (by simp)
def Res (o : Int) (a b c d : Int) (z : Int) : Prop := ∃ x y, Mt a b x ∧ Mt c d y ∧ impl_do.f o x y = some z
def KInv (o : Int) (a b c d : Nat) (V : Nat → Nat → Prop) (first : Bool) (lv lm : Int) : Prop :=
  (first = true ∧ ∀ i j, ¬ V i j) ∨ (first = false ∧ GoodK lv lm = true ∧ (∃ z, Res o a b c d z ∧ Mt lv lm z) ∧ (∀ i j z, V i j → impl_do.f o (numM a b i : Nat) (numM c d j : Nat) = some z → Mt lv lm z) ∧
    (∀ t, lm.toNat.testBit t = true → ∃ z1 z2, Res o a b c d z1 ∧ Res o a b c d z2 ∧ z1.toNat.testBit t ≠ z2.toNat.testBit t))
theorem Mt_bit {v m x : Int} (hk : GoodK v m = true) (h : Mt v m x) (t : Nat) (ht : m.toNat.testBit t = false) : x.toNat.testBit t = v.toNat.testBit t := by
  obtain ⟨v', m', x', rfl, rfl, rfl, hx, e⟩ := Mt_out h hk
  exact (match_bits e t).2.2 ht
section
variable {o : Int} {a b c d : Nat} {V : Nat → Nat → Prop} {fs : Bool} {lv lm kv km : Int}
theorem KInv.fst (h : KInv o a b c d V true lv lm) {i j : Nat} {z : Int} (hz : Res o a b c d z) (z0 : 0 ≤ z) (z1 : z ≤ 65535) (e : impl_do.f o (numM a b i : Nat) (numM c d j : Nat) = some z) : KInv o a b c d (fun i' j' => V i' j' ∨ i' = i ∧ j' = j) false z 0 := by
  rcases h with ⟨_, hv⟩ | ⟨hf, _⟩
  · obtain ⟨g, m⟩ := exact_good z0 z1
    refine Or.inr ⟨rfl, g, ⟨z, hz, m⟩, fun i' j' z' hV e' => ?_, fun t ht => by simp at ht⟩
    rcases hV with hV | ⟨rfl, rfl⟩
    · exact absurd hV (hv _ _)
    · rw [e] at e'; cases e'; exact m
  · cases hf
theorem KInv.next (h : KInv o a b c d V false lv lm) {i j : Nat} {z : Int} (hz : Res o a b c d z) (z0 : 0 ≤ z) (z1 : z ≤ 65535) (e : impl_do.f o (numM a b i : Nat) (numM c d j : Nat) = some z) :
    GoodK lv lm = true ∧ GoodK z 0 = true ∧ KInv o a b c d (fun i' j' => V i' j' ∨ i' = i ∧ j' = j) false (JoinK lv lm z 0).1 (JoinK lv lm z 0).2 := by
  rcases h with ⟨hf, _⟩ | ⟨_, g, ⟨w, hw, mw⟩, hv, hb⟩
  · cases hf
  · obtain ⟨gz, mz⟩ := exact_good z0 z1
    obtain ⟨gj, j1, j2⟩ := join_good g gz
    refine ⟨g, gz, Or.inr ⟨rfl, gj, ⟨z, hz, j2 _ mz⟩, fun i' j' z' hV e' => ?_, fun t ht => ?_⟩⟩
    · rcases hV with hV | ⟨rfl, rfl⟩
      · exact j1 _ (hv _ _ _ hV e')
      · rw [e] at e'; cases e'; exact j2 _ mz
    · by_cases hl : lm.toNat.testBit t = true
      · exact hb t hl
      · refine ⟨w, z, hw, hz, fun heq => ?_⟩
        have hl := Bool.eq_false_iff.mpr hl
        have hwt := Mt_bit g mw t hl
        obtain ⟨lv', lm', rfl, rfl, h1, h2, _⟩ := GoodK_nat g
        obtain ⟨z', rfl, h3⟩ := word_nat z0 z1
        rw [show (0 : Int) = ((0 : Nat) : Int) from rfl, JoinK_nat h1 h2 h3 (by decide)] at ht
        simp only [Int.toNat_natCast, jm, Nat.testBit_or, Nat.testBit_xor, Nat.zero_testBit] at ht hl hwt heq
        rw [hl, ← hwt, heq] at ht
        simp at ht
theorem KInv.least (h : KInv o a b c d V fs lv lm) (ho : o ≤ 2) (hg1 : GoodK (a : Int) b = true) (hg2 : GoodK (c : Int) d = true) (hs : KSnd o a b c d (kv, km)) (hne : ∃ i j, V i j) (hall : ∀ i j, i < 2 ^ popc 16 b → j < 2 ^ popc 16 d → V i j) : lv = kv ∧ lm = km := by
  obtain ⟨a', b', ea, eb, ha, hb, hab⟩ := GoodK_nat hg1
  obtain ⟨c', d', ec, ed, hc, hd, hcd⟩ := GoodK_nat hg2
  obtain rfl : a = a' := by omega
  obtain rfl : b = b' := by omega
  obtain rfl : c = c' := by omega
  obtain rfl : d = d' := by omega
  rcases h with ⟨_, hv⟩ | ⟨_, g, ⟨w, hw, mw⟩, hv, hbt⟩
  · obtain ⟨i, j, hV⟩ := hne; exact absurd hV (hv i j)
  · have vis : ∀ x y z, Mt (a : Int) b x → Mt (c : Int) d y → impl_do.f o x y = some z → Mt lv lm z := by
      intro x y z hx hy e
      obtain ⟨x, rfl, hx2⟩ := word_nat hx.1 hx.2.1
      obtain ⟨y, rfl, hy2⟩ := word_nat hy.1 hy.2.1
      obtain ⟨i, hi, ei⟩ := numM_enum ha hab hx2 ((Mt_nat hb hx2).1 hx)
      obtain ⟨j, hj, ej⟩ := numM_enum hc hcd hy2 ((Mt_nat hd hy2).1 hy)
      exact hv i j z (hall i j hi hj) (by rw [ei, ej]; exact e)
    have inK : ∀ z, Res o a b c d z → Mt kv km z := by
      rintro z ⟨x, y, hx, hy, e⟩
      obtain ⟨z', e', m⟩ := hs.2.1 x y hx hy
      rw [e] at e'; cases e'; exact m
    have bits : ∀ t, lm.toNat.testBit t = km.toNat.testBit t := by
      intro t
      cases h1 : lm.toNat.testBit t with
      | true =>
        cases h2 : km.toNat.testBit t with
        | true => rfl
        | false =>
          obtain ⟨z1, z2, r1, r2, hne⟩ := hbt t h1
          exact absurd ((Mt_bit hs.1 (inK z1 r1) t h2).trans (Mt_bit hs.1 (inK z2 r2) t h2).symm) hne
      | false =>
        cases h2 : km.toNat.testBit t with
        | false => rfl
        | true =>
          obtain ⟨x1, y1, x2, y2, z1, z2, p1, p2, p3, p4, q1, q2, hne⟩ := hs.2.2 ho t h2
          exact absurd ((Mt_bit g (vis _ _ _ p1 p2 q1) t h1).trans (Mt_bit g (vis _ _ _ p3 p4 q2) t h1).symm) hne
    have hm : lm.toNat = km.toNat := Nat.eq_of_testBit_eq bits
    obtain ⟨_, m1, _, e1, _, _, _⟩ := GoodK_nat g
    obtain ⟨_, m2, _, e2, _, _, _⟩ := GoodK_nat hs.1
    have hm2 : lm = km := by
      have f2 : km = (m2 : Int) := e2
      rw [e1, f2] at hm ⊢
      simp at hm
      rw [hm]
    have w1 := mw.2.2
    have w2 := (inK w hw).2.2
    exact ⟨by rw [← w1, ← w2, hm2], hm2⟩
end
section
variable {l : List Int} {o : Int} {a b c d : Nat} {kv km : Int} {N M : Nat} {al : Bool}
theorem k_end (hb : Bytes l) (hg1 : GoodK (a : Int) b = true) (hg2 : GoodK (c : Int) d = true) (hs : KSnd o a b c d (kv, km)) (hN : N = 2 ^ popc 16 b) (hM : M = 2 ^ popc 16 d) {V : Nat → Nat → Prop} {fs : Bool} {lv lm : Int} (i : Int) (h : KInv o a b c d V fs lv lm)
    (hall : N ≤ 64 → M ≤ 64 → (∃ i j, V i j) ∧ ∀ i j, i < N → j < M → V i j) : Ev (fun k => laws_FnKnown.j3 k l o N M al fs i false a b c d kv km lv lm) true := by
  refine Ev.step (fun k => laws_FnKnown.j3.eq_2 ..) (Ev.neg (by simp) ?_)
  by_cases h1 : al = true
  · refine Ev.pos h1 ?_
    by_cases h2 : (N : Int) ≤ 64
    · refine Ev.pos h2 ?_
      by_cases h3 : (M : Int) ≤ 64
      · refine Ev.pos h3 ?_
        by_cases h4 : o ≤ 2
        · refine Ev.pos h4 ?_
          obtain ⟨hne, hv⟩ := hall (by omega) (by omega)
          obtain ⟨e1, e2⟩ := h.least h4 hg1 hg2 hs hne (fun i j hi hj => hv i j (by omega) (by omega))
          rw [e1, e2]
          exact Ev.neg (by simp) (j7_ok hb)
        · exact Ev.neg h4 (j7_ok hb)
      · exact Ev.neg h3 (j7_ok hb)
    · exact Ev.neg h2 (j7_ok hb)
  · exact Ev.neg h1 (j7_ok hb)
theorem k_pair (hg1 : GoodK (a : Int) b = true) (hg2 : GoodK (c : Int) d = true) (ho : 1 ≤ o ∧ o ≤ 10) (hs : KSnd o a b c d (kv, km)) (hN : N = 2 ^ popc 16 b) (hM : M = 2 ^ popc 16 d) {V : Nat → Nat → Prop} {fs : Bool} {lv lm : Int} (i j : Nat) (hi : i < N) (hj : j < M) (h : KInv o a b c d V fs lv lm)
    (next : ∀ lv lm, KInv o a b c d (fun i' j' => V i' j' ∨ i' = i ∧ j' = j) false lv lm → Ev (fun k => laws_FnKnown.l1 k l o N M al false (i : Int) (wrap64 ((j : Int) + 1)) a b c d kv km lv lm) true) :
    Ev (fun k => laws_FnKnown.j5 k l o N M al fs (i : Int) (j : Int) true a b c d kv km lv lm) true := by
  obtain ⟨a', b', ea, eb, ha, hb', hab⟩ := GoodK_nat hg1
  obtain ⟨c', d', ec, ed, hc, hd, hcd⟩ := GoodK_nat hg2
  obtain rfl : a = a' := by omega
  obtain rfl : b = b' := by omega
  obtain rfl : c = c' := by omega
  obtain rfl : d = d' := by omega
  have e1 := numberAt_impl a b i hg1 hb' ha hab (by omega)
  have e2 := numberAt_impl c d j hg2 hd hc hcd (by omega)
  obtain ⟨x0, x1⟩ := numM_match (n := i) ha hab
  obtain ⟨y0, y1⟩ := numM_match (n := j) hc hcd
  have hx := (Mt_nat hb' x0).2 x1
  have hy := (Mt_nat hd y0).2 y1
  obtain ⟨z, ez, mz⟩ := hs.2.1 _ _ hx hy
  have hz : Res o a b c d z := ⟨_, _, hx, hy, ez⟩
  refine Ev.step (fun k => laws_FnKnown.j5.eq_2 ..) (Ev.pos rfl <| Ev.bind e1 <| Ev.bind e2 <| Ev.bindE (doOp_ok ho (by omega) (by omega) ez) <| Ev.bindE (mayBe_mt hs.1 mz) <| Ev.pos rfl <| Ev.pos rfl <| Ev.pos rfl <| Ev.pos rfl ?_)
  refine Ev.step (fun k => laws_FnKnown.j6.eq_2 ..) (Ev.neg (by simp) ?_)
  cases fs with
  | true => exact Ev.pos rfl (next _ _ (h.fst hz mz.1 mz.2.1 ez))
  | false =>
    obtain ⟨g1, g2, hk⟩ := h.next hz mz.1 mz.2.1 ez
    refine Ev.neg (by simp) <| Ev.bindE (a := ((JoinK lv lm z 0).1, (JoinK lv lm z 0).2, true)) ?_ (Ev.pos rfl (next _ _ hk))
    rw [impl_JoinKnown_eq, g1, g2]; rfl
theorem k_l1 (hg1 : GoodK (a : Int) b = true) (hg2 : GoodK (c : Int) d = true) (ho : 1 ≤ o ∧ o ≤ 10) (hs : KSnd o a b c d (kv, km)) (hN : N = 2 ^ popc 16 b) (hM : M = 2 ^ popc 16 d) (i : Nat) (hi : i < N)
    (outer : ∀ (V : Nat → Nat → Prop) fs lv lm, KInv o a b c d V fs lv lm → (∀ j', j' < M → j' < 64 → V i j') → (∀ i' j', i' < i → j' < M → j' < 64 → V i' j') → Ev (fun k => laws_FnKnown.l0 k l o N M al fs (wrap64 ((i : Int) + 1)) a b c d kv km lv lm) true) :
    ∀ (p j : Nat), j + p = 64 → ∀ (V : Nat → Nat → Prop) fs lv lm, KInv o a b c d V fs lv lm → (∀ j', j' < j → j' < M → V i j') → (∀ i' j', i' < i → j' < M → j' < 64 → V i' j') →
      Ev (fun k => laws_FnKnown.l1 k l o N M al fs (i : Int) (j : Int) a b c d kv km lv lm) true
  | 0, j, hp, V, fs, lv, lm, h, h1, h2 => by
    have hj : j = 64 := by omega
    refine Ev.step (fun k => laws_FnKnown.l1.eq_2 ..) ?_
    have fin : Ev (fun k => laws_FnKnown.j5 k l o N M al fs (i : Int) (j : Int) false a b c d kv km lv lm) true :=
      Ev.step (fun k => laws_FnKnown.j5.eq_2 ..) (Ev.neg (by simp) (outer V fs lv lm h (fun j' hj' h6 => h1 j' (by omega) hj') h2))
    by_cases c1 : (j : Int) < (M : Int)
    · refine Ev.pos c1 ?_
      rw [decide_eq_false (show ¬ (j : Int) < 64 by omega)]; exact fin
    · exact Ev.neg c1 fin
  | p + 1, j, hp, V, fs, lv, lm, h, h1, h2 => by
    refine Ev.step (fun k => laws_FnKnown.l1.eq_2 ..) ?_
    by_cases c1 : (j : Int) < (M : Int)
    · refine Ev.pos c1 ?_
      rw [decide_eq_true (show (j : Int) < 64 by omega)]
      refine k_pair hg1 hg2 ho hs hN hM i j hi (by omega) h fun lv' lm' hk => ?_
      rw [w1 j (by omega)]
      exact k_l1 hg1 hg2 ho hs hN hM i hi outer p (j + 1) (by omega) _ false lv' lm' hk (fun j' hj' hm => by
        by_cases e : j' = j
        · exact Or.inr ⟨rfl, e⟩
        · exact Or.inl (h1 j' (by omega) hm)) (fun i' j' h3 h4 h5 => Or.inl (h2 i' j' h3 h4 h5))
    · refine Ev.neg c1 ?_
      exact Ev.step (fun k => laws_FnKnown.j5.eq_2 ..) (Ev.neg (by simp) (outer V fs lv lm h (fun j' hj' h6 => h1 j' (by omega) hj') h2))
theorem k_l0 (hb : Bytes l) (hg1 : GoodK (a : Int) b = true) (hg2 : GoodK (c : Int) d = true) (ho : 1 ≤ o ∧ o ≤ 10) (hs : KSnd o a b c d (kv, km)) (hN : N = 2 ^ popc 16 b) (hM : M = 2 ^ popc 16 d) :
    ∀ (q i : Nat), i + q = 64 → ∀ (V : Nat → Nat → Prop) fs lv lm, KInv o a b c d V fs lv lm → (∀ i' j', i' < i → i' < N → j' < M → j' < 64 → V i' j') →
      Ev (fun k => laws_FnKnown.l0 k l o N M al fs (i : Int) a b c d kv km lv lm) true
  | 0, i, hq, V, fs, lv, lm, h, h1 => by
    have hp := Nat.two_pow_pos (popc 16 b)
    have hp2 := Nat.two_pow_pos (popc 16 d)
    have fin := k_end (al := al) hb hg1 hg2 hs hN hM (i : Int) h (fun hn hm => ⟨⟨0, 0, h1 0 0 (by omega) (by omega) (by omega) (by omega)⟩, fun i' j' hi' hj' => h1 i' j' (by omega) hi' hj' (by omega)⟩)
    refine Ev.step (fun k => laws_FnKnown.l0.eq_2 ..) ?_
    by_cases c1 : (i : Int) < (N : Int)
    · refine Ev.pos c1 ?_
      rw [decide_eq_false (show ¬ (i : Int) < 64 by omega)]; exact fin
    · exact Ev.neg c1 fin
  | q + 1, i, hq, V, fs, lv, lm, h, h1 => by
    have hp := Nat.two_pow_pos (popc 16 b)
    have hp2 := Nat.two_pow_pos (popc 16 d)
    refine Ev.step (fun k => laws_FnKnown.l0.eq_2 ..) ?_
    by_cases c1 : (i : Int) < (N : Int)
    · refine Ev.pos c1 ?_
      rw [decide_eq_true (show (i : Int) < 64 by omega)]
      refine Ev.step (fun k => laws_FnKnown.j3.eq_2 ..) (Ev.pos rfl ?_)
      refine k_l1 hg1 hg2 ho hs hN hM i (by omega) (fun V' fs' lv' lm' h' r1 r2 => ?_) 64 0 (by omega) V fs lv lm h (fun j' hj' _ => by omega) (fun i' j' h3 h4 h5 => h1 i' j' h3 (by omega) h4 h5)
      rw [w1 i (by omega)]
      exact k_l0 hb hg1 hg2 ho hs hN hM q (i + 1) (by omega) V' fs' lv' lm' h' (fun i' j' h3 h4 h5 h6 => by
        by_cases e : i' = i
        · rw [e]; exact r1 j' h5 h6
        · exact r2 i' j' (by omega) h5 h6)
    · refine Ev.neg c1 ?_
      exact k_end hb hg1 hg2 hs hN hM (i : Int) h (fun hn hm => ⟨⟨0, 0, h1 0 0 (by omega) (by omega) (by omega) (by omega)⟩, fun i' j' hi' hj' => h1 i' j' (by omega) hi' hj' (by omega)⟩)
end
theorem FnKnown : laws_FnKnown.Pure := by
  intro l0 l1 _ y0 hw0 _ y1 hw1
  refine Ev.rounds ?_
  unfold laws_FnKnown.f
  by_cases hlen : wrap64 ((l0.length : Int) + (l1.length : Int)) > 1048576
  · exact Ev.pos hlen (Ev.now _)
  refine Ev.neg hlen ?_
  obtain ⟨s0, s1⟩ := small_of hlen y0 y1
  have hb0 := bytes_of ⟨y0, hw0⟩ s0
  have hb1 := bytes_of ⟨y1, hw1⟩ s1
  have h : EvP (fun k => spec_DrawDoKnown.f k l0) (fun _ => True) := by
    unfold spec_DrawDoKnown.f
    exact EvP.bindE (among_ok hb0 0 0 _ (by decide) (by decide) (by omega) (by omega)) fun p hp => EvP.bind (known_ok hb0 _ _ (by omega) (by omega)) fun q hq => EvP.bind (known_ok hb0 _ _ (by omega) (by omega)) fun r hr => EvP.now _ trivial
  obtain ⟨⟨o, a, b, c, d⟩, e, _⟩ := h
  refine Ev.bind e ?_
  rcases dkc_ o a b c d with ⟨r, e1, e2, ho, hs, ht, hr⟩ | ⟨e1, e2⟩
  · refine Ev.bind e2 <| Ev.bind e1 <| Ev.neg (by simp) <| Ev.neg (by simp) <| Ev.bindE (impl_GoodKnown_eq ..) <| Ev.bindE (spec_GoodKnown_eq ..) ?_
    refine Ev.step (fun k => laws_FnKnown.j0.eq_2 ..) (Ev.neg (by simp) (Ev.pos rfl ?_))
    obtain ⟨a', b', rfl, rfl, ha, hb, hab⟩ := GoodK_nat hs
    obtain ⟨c', d', rfl, rfl, hc, hd, hcd⟩ := GoodK_nat ht
    refine Ev.bindE (impl_WaysOf_eq a' b' hs hb) <| Ev.bindE (impl_WaysOf_eq c' d' ht hd) <| Ev.bindE (impl_GoodKnown_eq ..) <| Ev.pos hr.1 <| Ev.pos rfl ?_
    refine Ev.step (fun k => laws_FnKnown.j1.eq_2 ..) (Ev.neg (by simp) ?_)
    exact k_l0 hb1 hs ht ho hr rfl rfl 64 0 (by omega) (fun _ _ => False) true 0 0 (Or.inl ⟨rfl, fun _ _ h => h⟩) (fun i' j' h => by omega)
  · refine Ev.bind e2 <| Ev.bind e1 <| Ev.neg (by simp) <| Ev.neg (by simp) <| Ev.bindE (impl_GoodKnown_eq ..) <| Ev.bindE (spec_GoodKnown_eq ..) ?_
    exact Ev.step (fun k => laws_FnKnown.j0.eq_2 ..) (Ev.neg (by simp) (Ev.neg (by simp) (j7_ok hb1)))
end Go.Proofs.Ytggddmpomdpdjaa.Pure
