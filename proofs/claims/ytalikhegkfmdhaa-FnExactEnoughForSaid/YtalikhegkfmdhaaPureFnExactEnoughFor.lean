/- Proved here: the pure statement of the law FnExactEnoughFor: what the printed functions compute answers true. Conditions: the statement's own bounds. -/
import Derived.Test.YtalikhegkfmdhaaPHEx1
import Derived.Test.YtalikhegkfmdhaaPHEx2
import Derived.Test.YtalikhegkfmdhaaPHEx3
import Derived.Test.YtalikhegkfmdhaaPHEx4
import Derived.Test.YtalikhegkfmdhaaPHEx5
namespace Go.Proofs.Ytalikhegkfmdhaa.Pure
open Go Go.RowKit Go.Proofs.Ytalikhegkfmdhaa.PHE Go.Proofs.YtalikhegkfmdhaaW.PrintWords Go.Proofs.YtalikhegkfmdhaaW.PrintLast Go.Proofs.YtalikhegkfmdhaaW.PrintMore
set_option linter.unusedVariables false
set_option linter.unusedSimpArgs false

/-- A number lies between two. -/
def In (a lo hi : Int) : Bool := decide (lo ≤ a) && decide (a ≤ hi)
theorem In_true {a lo hi : Int} : In a lo hi = true ↔ lo ≤ a ∧ a ≤ hi := by simp [In]
theorem In_false {a lo hi : Int} : In a lo hi = false ↔ ¬ (lo ≤ a ∧ a ≤ hi) := by rw [← In_true]; simp
theorem In_ite {a lo hi : Int} : (if a ≥ lo then some (decide (a ≤ hi)) else some false) = some (In a lo hi) := by
  unfold In; by_cases h : lo ≤ a <;> simp [h]
theorem ite_some {α : Type} {c : Prop} [Decidable c] (a b : α) : (if c then some a else some b) = some (if c then a else b) := by split <;> rfl
theorem ne_self_bool (b : Bool) : ((b != b) = true) = False := by simp

theorem spec_l1In_eq (a b c : Int) : spec_l1In.f a b c = some (In a b c) := by unfold spec_l1In.f; exact In_ite

theorem impl_in_eq (a b c : Int) : impl_in.f a b c = some (In a b c) := by unfold impl_in.f; exact In_ite

/-- The bits of a number that another one has not. -/
def andn (a b : Nat) : Nat := a ^^^ (a &&& b)
theorem testBit_andn (a b i : Nat) : (andn a b).testBit i = (a.testBit i && !b.testBit i) := by
  unfold andn; rw [Nat.testBit_xor, Nat.testBit_and]; cases a.testBit i <;> cases b.testBit i <;> rfl
theorem andn_le (a b : Nat) : andn a b ≤ a := by
  have h : andn a b &&& a = andn a b := by
    apply Nat.eq_of_testBit_eq; intro i; rw [Nat.testBit_and, testBit_andn]; cases a.testBit i <;> cases b.testBit i <;> rfl
  rw [← h]; exact Nat.and_le_right
theorem wrap_i64_nat (n : Nat) (h : n < 9223372036854775808) : IntKind.i64.wrap (n : Int) = n := by
  rw [IntKind.wrap_i64]; omega
theorem ofInt_nat (n : Nat) : BitVec.ofInt 64 (n : Int) = BitVec.ofNat 64 n := BitVec.ofInt_natCast 64 n
theorem bits_and (a b : Nat) (ha : a < 9223372036854775808) (hb : b < 9223372036854775808) : Go.bits .and .i64 a b = ((a &&& b : Nat) : Int) := by
  show IntKind.i64.wrap (((BitVec.ofInt 64 (a : Int)) &&& (BitVec.ofInt 64 (b : Int))).toNat : Int) = _
  rw [ofInt_nat, ofInt_nat, BitVec.toNat_and, BitVec.toNat_ofNat, BitVec.toNat_ofNat, Nat.mod_eq_of_lt (by omega), Nat.mod_eq_of_lt (by omega)]
  exact wrap_i64_nat _ (Nat.lt_of_le_of_lt Nat.and_le_left ha)
theorem or_lt63 {a b : Nat} (ha : a < 9223372036854775808) (hb : b < 9223372036854775808) : a ||| b < 9223372036854775808 := Nat.or_lt_two_pow (n := 63) ha hb
theorem xor_lt63 {a b : Nat} (ha : a < 9223372036854775808) (hb : b < 9223372036854775808) : a ^^^ b < 9223372036854775808 := Nat.xor_lt_two_pow (n := 63) ha hb
theorem bits_or (a b : Nat) (ha : a < 9223372036854775808) (hb : b < 9223372036854775808) : Go.bits .or .i64 a b = ((a ||| b : Nat) : Int) := by
  show IntKind.i64.wrap (((BitVec.ofInt 64 (a : Int)) ||| (BitVec.ofInt 64 (b : Int))).toNat : Int) = _
  rw [ofInt_nat, ofInt_nat, BitVec.toNat_or, BitVec.toNat_ofNat, BitVec.toNat_ofNat, Nat.mod_eq_of_lt (by omega), Nat.mod_eq_of_lt (by omega)]
  exact wrap_i64_nat _ (or_lt63 ha hb)
theorem bits_xor (a b : Nat) (ha : a < 9223372036854775808) (hb : b < 9223372036854775808) : Go.bits .xor .i64 a b = ((a ^^^ b : Nat) : Int) := by
  show IntKind.i64.wrap (((BitVec.ofInt 64 (a : Int)) ^^^ (BitVec.ofInt 64 (b : Int))).toNat : Int) = _
  rw [ofInt_nat, ofInt_nat, BitVec.toNat_xor, BitVec.toNat_ofNat, BitVec.toNat_ofNat, Nat.mod_eq_of_lt (by omega), Nat.mod_eq_of_lt (by omega)]
  exact wrap_i64_nat _ (xor_lt63 ha hb)
theorem bits_andNot (a b : Nat) (ha : a < 9223372036854775808) (hb : b < 9223372036854775808) : Go.bits .andNot .i64 a b = ((andn a b : Nat) : Int) := by
  show IntKind.i64.wrap (((BitVec.ofInt 64 (a : Int)) &&& ~~~ (BitVec.ofInt 64 (b : Int))).toNat : Int) = _
  rw [ofInt_nat, ofInt_nat]
  have h : (BitVec.ofNat 64 a &&& ~~~ BitVec.ofNat 64 b).toNat = andn a b := by
    apply Nat.eq_of_testBit_eq; intro i
    rw [testBit_andn]
    by_cases hi : i < 64
    · rw [BitVec.testBit_toNat, BitVec.getLsbD_and, BitVec.getLsbD_not, BitVec.getLsbD_ofNat, BitVec.getLsbD_ofNat]
      simp [hi]
    · have h1 : a.testBit i = false := Nat.testBit_lt_two_pow (Nat.lt_of_lt_of_le ha (by have := Nat.pow_le_pow_right (show 0 < 2 by decide) (show 63 ≤ i by omega); omega))
      rw [h1, BitVec.testBit_toNat, BitVec.getLsbD_of_ge _ _ (by omega)]; rfl
  rw [h]
  exact wrap_i64_nat _ (Nat.lt_of_le_of_lt (andn_le a b) ha)
theorem and_zero_bit {a b : Nat} (h : a &&& b = 0) (i : Nat) : (a.testBit i && b.testBit i) = false := by rw [← Nat.testBit_and, h]; simp
theorem nat_of {x hi : Int} (h : In x 0 hi = true) : ∃ n : Nat, x = (n : Int) ∧ (n : Int) ≤ hi := by
  have h := In_true.1 h
  exact ⟨x.toNat, by omega, by omega⟩

theorem word_or {a b : Nat} (ha : a < 65536) (hb : b < 65536) : a ||| b < 65536 := Nat.or_lt_two_pow (n := 16) ha hb
theorem word_xor {a b : Nat} (ha : a < 65536) (hb : b < 65536) : a ^^^ b < 65536 := Nat.xor_lt_two_pow (n := 16) ha hb
theorem word_and {a b : Nat} (ha : a < 65536) : a &&& b < 65536 := Nat.lt_of_le_of_lt Nat.and_le_left ha
theorem word_andn {a b : Nat} (ha : a < 65536) : andn a b < 65536 := Nat.lt_of_le_of_lt (andn_le a b) ha

theorem Ev.pos {α : Type} {c : Prop} [Decidable c] {A B : Nat → Option α} {r : α} (h : c) (e : Ev A r) : Ev (fun k => if c then A k else B k) r := Ev.congr (fun _ => if_pos h) e
theorem Ev.neg {α : Type} {c : Prop} [Decidable c] {A B : Nat → Option α} {r : α} (h : ¬ c) (e : Ev B r) : Ev (fun k => if c then A k else B k) r := Ev.congr (fun _ => if_neg h) e
theorem Ev.bindE {α β : Type} {g : Option α} {f : Nat → α → Option β} {a : α} {r : β} (h : g = some a) (k : Ev (fun n => f n a) r) : Ev (fun n => g.bind (f n)) r := by subst h; exact k
theorem Ev.at_ {α : Type} {g : Nat → Option α} {r r' : α} (h : Ev g r) (e : r = r') : Ev g r' := e ▸ h
theorem Ev.one {α : Type} {g : Nat → Option α} {r r' : α} (h : Ev g r) (h' : Ev g r') : r = r' := by
  obtain ⟨K, h⟩ := h; obtain ⟨K', h'⟩ := h'
  have a := h (max K K') (by omega); have b := h' (max K K') (by omega)
  rw [a] at b; exact Option.some.inj b
/-- Two texts come to one answer, of which P holds. -/
def Both {α : Type} (P : α → Prop) (g f : Nat → Option α) : Prop := ∃ r, Ev g r ∧ Ev f r ∧ P r
theorem Both.now {α : Type} {P : α → Prop} (r : α) (h : P r) : Both P (fun _ => some r) (fun _ => some r) := ⟨r, Ev.now r, Ev.now r, h⟩
theorem Both.now2 {α : Type} {P : α → Prop} (r r' : α) (e : r = r') (h : P r) : Both P (fun _ => some r) (fun _ => some r') := ⟨r, Ev.now r, e ▸ Ev.now r, h⟩
theorem Both.mono {α : Type} {P Q : α → Prop} {g f : Nat → Option α} (h : Both P g f) (hq : ∀ r, P r → Q r) : Both Q g f := by obtain ⟨r, a, b, c⟩ := h; exact ⟨r, a, b, hq r c⟩
theorem Both.congrL {α : Type} {P : α → Prop} {g g' f : Nat → Option α} (e : ∀ k, g k = g' k) (h : Both P g' f) : Both P g f := by obtain ⟨r, a, b, c⟩ := h; exact ⟨r, a.congr e, b, c⟩
theorem Both.congrR {α : Type} {P : α → Prop} {g f f' : Nat → Option α} (e : ∀ k, f k = f' k) (h : Both P g f') : Both P g f := by obtain ⟨r, a, b, c⟩ := h; exact ⟨r, a, b.congr e, c⟩
theorem Both.posL {α : Type} {P : α → Prop} {c : Prop} [Decidable c] {A B f : Nat → Option α} (h : c) (e : Both P A f) : Both P (fun k => if c then A k else B k) f := e.congrL (fun _ => if_pos h)
theorem Both.negL {α : Type} {P : α → Prop} {c : Prop} [Decidable c] {A B f : Nat → Option α} (h : ¬ c) (e : Both P B f) : Both P (fun k => if c then A k else B k) f := e.congrL (fun _ => if_neg h)
theorem Both.posR {α : Type} {P : α → Prop} {c : Prop} [Decidable c] {A B f : Nat → Option α} (h : c) (e : Both P f A) : Both P f (fun k => if c then A k else B k) := e.congrR (fun _ => if_pos h)
theorem Both.negR {α : Type} {P : α → Prop} {c : Prop} [Decidable c] {A B f : Nat → Option α} (h : ¬ c) (e : Both P f B) : Both P f (fun k => if c then A k else B k) := e.congrR (fun _ => if_neg h)
theorem Both.ite {α : Type} {P : α → Prop} {c : Prop} [Decidable c] {A B A' B' : Nat → Option α} (h1 : c → Both P A A') (h2 : ¬ c → Both P B B') : Both P (fun k => if c then A k else B k) (fun k => if c then A' k else B' k) := by
  by_cases h : c
  · exact ((h1 h).posL h).posR h
  · exact ((h2 h).negL h).negR h
theorem Both.stepL {α : Type} {P : α → Prop} {g g' f : Nat → Option α} (e : ∀ k, g (k + 1) = g' k) (h : Both P g' f) : Both P g f := by obtain ⟨r, a, b, c⟩ := h; exact ⟨r, a.step e, b, c⟩
theorem Both.stepR {α : Type} {P : α → Prop} {g f f' : Nat → Option α} (e : ∀ k, f (k + 1) = f' k) (h : Both P g f') : Both P g f := by obtain ⟨r, a, b, c⟩ := h; exact ⟨r, a, b.step e, c⟩
theorem Both.bindL {α β : Type} {P : β → Prop} {g : Nat → Option α} {F : Nat → α → Option β} {f : Nat → Option β} {a : α} (h : Ev g a) (e : Both P (fun k => F k a) f) : Both P (fun k => (g k).bind (F k)) f := by obtain ⟨r, x, y, c⟩ := e; exact ⟨r, Ev.bind h x, y, c⟩
theorem Both.bindR {α β : Type} {P : β → Prop} {g : Nat → Option α} {F : Nat → α → Option β} {f : Nat → Option β} {a : α} (h : Ev g a) (e : Both P f (fun k => F k a)) : Both P f (fun k => (g k).bind (F k)) := by obtain ⟨r, x, y, c⟩ := e; exact ⟨r, x, Ev.bind h y, c⟩
theorem Both.bindEL {α β : Type} {P : β → Prop} {g : Option α} {F : Nat → α → Option β} {f : Nat → Option β} {a : α} (h : g = some a) (e : Both P (fun k => F k a) f) : Both P (fun k => g.bind (F k)) f := by subst h; exact e
theorem Both.bindER {α β : Type} {P : β → Prop} {g : Option α} {F : Nat → α → Option β} {f : Nat → Option β} {a : α} (h : g = some a) (e : Both P f (fun k => F k a)) : Both P f (fun k => g.bind (F k)) := by subst h; exact e
theorem Both.bind2 {α β : Type} {P : β → Prop} {Q : α → Prop} {g g' : Nat → Option α} {F F' : Nat → α → Option β} (h : Both Q g g') (e : ∀ a, Q a → Both P (fun k => F k a) (fun k => F' k a)) : Both P (fun k => (g k).bind (F k)) (fun k => (g' k).bind (F' k)) := by
  obtain ⟨a, x, y, c⟩ := h
  exact ((e a c).bindL x).bindR y
theorem Both.self {α : Type} {P : α → Prop} {g : Nat → Option α} {r : α} (h : Ev g r) (p : P r) : Both P g g := ⟨r, h, h, p⟩
theorem w1 (i : Nat) (h : i < 4611686018427387904) : wrap64 ((i : Int) + 1) = ((i + 1 : Nat) : Int) := by unfold wrap64; omega
theorem wrap_id (x : Int) (h0 : -9223372036854775808 ≤ x) (h1 : x ≤ 9223372036854775807) : wrap64 x = x := by unfold wrap64; omega
theorem rd_nat (l : List Int) (i : Nat) (h : i < l.length) : rd l (i : Int) = l[i] := by unfold rd; simp [List.getD, h]
theorem rdOf_nat {α : Type} (d : α) (l : List α) (i : Nat) (h : i < l.length) : rdOf d l (i : Int) = l[i] := by unfold rdOf; simp [List.getD, h]
theorem set_take {α : Type} (l : List α) (i : Nat) (v : α) (h : i < l.length) : (l.set i v).take (i + 1) = l.take i ++ [v] := by
  rw [List.take_succ_eq_append_getElem (by simpa using h), List.take_set_of_le (Nat.le_refl i)]; simp

theorem u64_nat (i : Nat) (h : i < 9223372036854775808) : IntKind.u64.wrap (i : Int) = (i : Int) := by
  have : IntKind.u64.wrap (i : Int) = (i : Int) % 18446744073709551616 := by simp [IntKind.wrap, IntKind.bits, IntKind.signed]
  rw [this]; omega
theorem shl_one (n : Nat) (h : n ≤ 60) : shl .i64 1 (n : Int) = ((2 ^ n : Nat) : Int) := by
  have hb : IntKind.i64.bits = 64 := rfl
  unfold shl
  rw [Int.toNat_natCast, hb, Nat.min_eq_left (by omega), Int.one_mul]
  have h1 : 2 ^ n ≤ 2 ^ 60 := Nat.pow_le_pow_right (by decide) h
  have h2 : ((2 : Int) ^ n) = ((2 ^ n : Nat) : Int) := by rw [Int.natCast_pow]; rfl
  rw [h2]; exact wrap_i64_nat _ (by omega)
/-- Bit i of a number, as the programs read it. -/
def bitM (x : Int) (i : Nat) : Bool := Go.bits .and .i64 (shr .i64 x (i : Int)) 1 == 1
def modelM (n : Nat) (x : Int) : List Bool := (List.range n).map (fun i => bitM x i)
theorem modelM_len (n : Nat) (x : Int) : (modelM n x).length = n := by simp [modelM]

def GoodK (v m : Int) : Bool := In v 0 65535 && In m 0 65535 && (Go.bits .and .i64 v m == 0)
def GoodS (lo hi : Int) : Bool := In lo 0 65535 && In hi 0 65535 && decide (lo ≤ hi)

def JoinK (a b c d : Int) : Int × Int := (Go.bits .andNot .i64 a (Go.bits .or .i64 (Go.bits .or .i64 b d) (Go.bits .xor .i64 a c)), Go.bits .or .i64 (Go.bits .or .i64 b d) (Go.bits .xor .i64 a c))

def JoinS (a b c d : Int) : Int × Int := (mn a c, mx b d)

def MeetS (a b c d : Int) : Int × Int × Bool := if mx a c > mn b d then (0, 0, false) else (mx a c, mn b d, true)

def LessS (a b c d : Int) : Int × Int × Int × Int × Bool := if a ≥ d then (0, 0, 0, 0, false) else (a, mn b (wrap64 (d - 1)), mx c (wrap64 (a + 1)), d, true)

theorem GoodK_nat {v m : Int} (h : GoodK v m = true) : ∃ a b : Nat, v = a ∧ m = b ∧ a < 65536 ∧ b < 65536 ∧ a &&& b = 0 := by
  unfold GoodK at h
  simp only [Bool.and_eq_true, beq_iff_eq] at h
  obtain ⟨⟨h1, h2⟩, h3⟩ := h
  obtain ⟨a, rfl, ha⟩ := nat_of h1
  obtain ⟨b, rfl, hb⟩ := nat_of h2
  rw [bits_and a b (by omega) (by omega)] at h3
  exact ⟨a, b, rfl, rfl, by omega, by omega, by omega⟩

theorem Arca_nat (l : List S71) (i : Nat) (h : i < l.length) : rd_T71 l (i : Int) = l[i] := by unfold rd_T71; simp [List.getD, h]
theorem Arcb_nat (l : List S68) (i : Nat) (h : i < l.length) : rd_T68 l (i : Int) = l[i] := by unfold rd_T68; simp [List.getD, h]

theorem toArc_eq (a0 a1 : Int) : laws_toArc.f a0 a1 = some (a0, a1) := rfl

def cvArc (x : S71) : S68 := ⟨x.f0, x.f1⟩
theorem toArcS_loop (l : List S71) (hl : l.length ≤ 1099511627776) : ∀ (d i : Nat) (acc : List S68), i + d = l.length → acc.length = l.length → acc.take i = (l.take i).map cvArc → Ev (fun k => laws_toArcS.l0 k l acc (i : Int)) (l.map cvArc)
  | 0, i, acc, hi, ha, ht => by
    refine Ev.step (fun k => laws_toArcS.l0.eq_2 ..) ?_
    refine Ev.neg (by omega) ?_
    rw [List.take_of_length_le (by omega), List.take_of_length_le (by omega)] at ht
    rw [ht]; exact Ev.now _
  | d + 1, i, acc, hi, ha, ht => by
    refine Ev.step (fun k => laws_toArcS.l0.eq_2 ..) ?_
    refine Ev.pos (by omega) (Ev.pos (by omega) (Ev.bindE (toArc_eq ..) (Ev.pos (by omega) ?_)))
    rw [w1 i (by omega), Int.toNat_natCast]
    refine toArcS_loop l hl d (i + 1) _ (by omega) (by simpa using ha) ?_
    rw [set_take _ _ _ (by omega), ht, List.take_succ_eq_append_getElem (show i < l.length by omega), List.map_append]
    rw [Arca_nat l i (by omega)]; rfl
theorem toArcS_ev (l : List S71) (hl : l.length ≤ 1048576) : Ev (fun k => laws_toArcS.f k l) (l.map cvArc) := by
  unfold laws_toArcS.f
  refine Ev.pos (by omega) (Ev.pos (by omega) ?_)
  exact toArcS_loop l (by omega) l.length 0 _ (by omega) (by simp) (by simp)

theorem szArcS_ok (l : List S71) (a : Int) (h : (l.length : Int) ≤ a) (ha : a ≤ 1048576) : laws_szArcS.f l a = some (a - l.length) := by
  unfold laws_szArcS.f; rw [wrap_id _ (by omega) (by omega), if_neg (by omega)]
theorem szArcS_big (l : List S71) (a : Int) (h : a < (l.length : Int)) (ha : a ≤ 1048576) (h0 : 0 ≤ a) (hl : l.length ≤ maxLen) : laws_szArcS.f l a = some (-1) := by
  unfold maxLen at hl; unfold laws_szArcS.f; rw [wrap_id _ (by omega) (by omega), if_pos (by omega)]

theorem eqArc_self (a0 a1 : Int) : laws_eqArc.f a0 a1 a0 a1 = some true := by unfold laws_eqArc.f; simp
theorem eqArcS_loop (l : List S68) (hl : l.length ≤ 1099511627776) : ∀ (d i : Nat), i + d = l.length → Ev (fun k => laws_eqArcS.l0 k l l (i : Int)) true
  | 0, i, hi => by
    refine Ev.step (fun k => laws_eqArcS.l0.eq_2 ..) ?_
    exact Ev.neg (by omega) (Ev.now _)
  | d + 1, i, hi => by
    refine Ev.step (fun k => laws_eqArcS.l0.eq_2 ..) ?_
    refine Ev.pos (by omega) (Ev.pos (by omega) (Ev.pos (by omega) (Ev.bindE (eqArc_self ..) (Ev.pos rfl ?_))))
    rw [w1 i (by omega)]
    exact eqArcS_loop l hl d (i + 1) (by omega)
theorem eqArcS_self (l : List S68) (hl : l.length ≤ 1099511627776) : Ev (fun k => laws_eqArcS.f k l l) true := by
  unfold laws_eqArcS.f
  exact Ev.pos rfl (eqArcS_loop l hl l.length 0 (by omega))

theorem impl_isSpots_eq (a : Int) : impl_isSpots.f a = some (In a 1 6) := by unfold impl_isSpots.f; rw [impl_in_eq]; rfl

def ArcsOk (n : Int) (l : List S68) (i : Nat) (r : Bool) : Prop := r = true → (1 ≤ n ∧ n ≤ 6) ∧ l.length ≤ 30 ∧ ∀ j (h : j < l.length), i ≤ j → (0 ≤ l[j].f0 ∧ l[j].f0 ≤ n - 1) ∧ (0 ≤ l[j].f1 ∧ l[j].f1 ≤ n - 1)
theorem goodArcs_loop (n : Int) (l : List S68) (hl : l.length ≤ 1099511627776) : ∀ (d i : Nat), i + d = l.length → Both (ArcsOk n l i) (fun k => spec_GoodArcs.l0 k n l l (l.length : Int) (i : Int)) (fun k => impl_GoodArcs.l0 k n l l (l.length : Int) (i : Int))
  | 0, i, hi => by
    refine Both.stepL (fun k => spec_GoodArcs.l0.eq_2 ..) (Both.stepR (fun k => impl_GoodArcs.l0.eq_2 ..) ?_)
    refine Both.negL (by omega) (Both.negR (by omega) (Both.bindEL (spec_l1In_eq ..) (Both.bindER (impl_isSpots_eq ..) ?_)))
    refine Both.ite (fun h => Both.now _ ?_) (fun h => Both.now _ ?_)
    · intro hr
      have := In_true.1 h
      have hr := of_decide_eq_true hr
      exact ⟨this, by omega, fun j hj hij => by omega⟩
    · intro hr; cases hr
  | d + 1, i, hi => by
    have ih := goodArcs_loop n l hl d (i + 1) (by omega)
    have hil : i < l.length := by omega
    refine Both.stepL (fun k => spec_GoodArcs.l0.eq_2 ..) (Both.stepR (fun k => impl_GoodArcs.l0.eq_2 ..) ?_)
    refine Both.posL (by omega) (Both.posL (by omega) (Both.posL (by omega) ?_))
    refine Both.posR (by omega) (Both.posR (by omega) (Both.posR (by omega) ?_))
    refine Both.bindEL (spec_l1In_eq ..) (Both.bindER (impl_in_eq ..) ?_)
    rw [Arcb_nat l i hil]
    have fin : ∀ r, ArcsOk n l (i + 1) r → In l[i].f0 0 (wrap64 (n - 1)) = true → In l[i].f1 0 (wrap64 (n - 1)) = true → ArcsOk n l i r := by
      intro r h h1 h2 hr
      obtain ⟨a, b, c⟩ := h hr
      rw [wrap_id (n - 1) (by omega) (by omega)] at h1 h2
      refine ⟨a, b, fun j hj hij => ?_⟩
      by_cases e : i = j
      · subst e; exact ⟨In_true.1 h1, In_true.1 h2⟩
      · exact c j hj (by omega)
    have bad : ∀ r, r = false → ArcsOk n l i r := fun r h h' => by rw [h] at h'; cases h'
    refine Both.ite (fun h1 => ?_) (fun h1 => ?_)
    · refine Both.bindEL (spec_l1In_eq ..) (Both.bindER (impl_in_eq ..) ?_)
      refine Both.stepL (fun k => spec_GoodArcs.j1.eq_2 ..) (Both.stepR (fun k => impl_GoodArcs.j1.eq_2 ..) ?_)
      refine Both.ite (fun h2 => Both.now _ (bad _ rfl)) (fun h2 => ?_)
      have h2 : In l[i].f1 0 (wrap64 (n - 1)) = true := by simpa using h2
      have ih := ih.mono (fun r hr => fin r hr h1 h2)
      by_cases e : i = 0
      · subst e
        refine Both.negL (by omega) (Both.posR (by unfold mx wrap64; simp) (Both.posR (by unfold mx wrap64; simp; omega) (Both.negR (by omega) ?_)))
        rw [w1 0 (by omega)]; exact ih
      · have em : wrap64 ((i : Int) - 1) = ((i - 1 : Nat) : Int) := by unfold wrap64; omega
        have em2 : mx 0 ((i - 1 : Nat) : Int) = ((i - 1 : Nat) : Int) := by unfold mx; split <;> omega
        rw [em, em2]
        refine Both.posL (by omega) (Both.posL (by omega) (Both.posL (by omega) ?_))
        refine Both.posR (by omega) (Both.posR (by omega) (Both.posR (by omega) ?_))
        rw [w1 i (by omega)]
        refine Both.ite (fun _ => Both.now _ (bad _ rfl)) (fun _ => Both.ite (fun _ => Both.ite (fun _ => Both.now _ (bad _ rfl)) (fun _ => ih)) (fun _ => ih))
    · refine Both.stepL (fun k => spec_GoodArcs.j1.eq_2 ..) (Both.stepR (fun k => impl_GoodArcs.j1.eq_2 ..) ?_)
      exact Both.posL rfl (Both.posR rfl (Both.now _ (bad _ rfl)))
theorem goodArcs_both (n : Int) (l : List S68) (hl : l.length ≤ 1099511627776) : Both (ArcsOk n l 0) (fun k => spec_GoodArcs.f k n l) (fun k => impl_GoodArcs.f k n l) := by
  unfold spec_GoodArcs.f impl_GoodArcs.f
  exact goodArcs_loop n l hl l.length 0 (by omega)

theorem and_pow (m j : Nat) : m &&& 2 ^ j = if m.testBit j = true then 2 ^ j else 0 := by
  apply Nat.eq_of_testBit_eq
  intro i
  rw [Nat.testBit_and]
  by_cases h : i = j
  · subst h
    by_cases hb : m.testBit i = true
    · rw [if_pos hb, hb, Nat.testBit_two_pow_self]; rfl
    · rw [if_neg hb]; simp only [Bool.not_eq_true] at hb; rw [hb, Nat.zero_testBit]; rfl
  · rw [Nat.testBit_two_pow_of_ne (by omega), Bool.and_false]
    split
    · rw [Nat.testBit_two_pow_of_ne (by omega)]
    · rw [Nat.zero_testBit]
theorem add_orp {a p : Nat} (ha : a < 65536) (hp : p ≤ 32768) (hz : a &&& p = 0) : a + p = a ||| p := by
  have := BitVec.add_eq_or_of_and_eq_zero (BitVec.ofNat 64 a) (BitVec.ofNat 64 p) (by
    apply BitVec.eq_of_toNat_eq
    rw [BitVec.toNat_and, BitVec.toNat_ofNat, BitVec.toNat_ofNat, Nat.mod_eq_of_lt (by omega), Nat.mod_eq_of_lt (by omega), hz]; rfl)
  have := congrArg BitVec.toNat this
  rw [BitVec.toNat_add, BitVec.toNat_or, BitVec.toNat_ofNat, BitVec.toNat_ofNat, Nat.mod_eq_of_lt (show a < 2 ^ 64 by omega), Nat.mod_eq_of_lt (show p < 2 ^ 64 by omega), Nat.mod_eq_of_lt (by omega)] at this
  exact this
theorem pow15 {j : Nat} (hj : j < 16) : 2 ^ j ≤ 32768 := Nat.pow_le_pow_right (n := 2) (show 2 > 0 by decide) (show j ≤ 15 by omega)
theorem pow16 {j : Nat} (hj : j ≤ 16) : 2 ^ j ≤ 65536 := Nat.pow_le_pow_right (n := 2) (show 2 > 0 by decide) hj
theorem add_or {a j : Nat} (ha : a < 65536) (hj : j < 16) (h : a.testBit j = false) : a + 2 ^ j = a ||| 2 ^ j :=
  add_orp ha (pow15 hj) (by rw [and_pow, h]; simp)
theorem or_ltp {a p : Nat} (ha : a < 65536) (hp : p ≤ 32768) : a ||| p < 65536 := word_or ha (by omega)
/-- The bits of n laid to the places of a mask, from place j on. -/
def deposit (m : Nat) : Nat → Nat → Nat → Nat → Nat
  | 0, _, _, out => out
  | d + 1, j, n, out => if m.testBit j = true then deposit m d (j + 1) (n / 2) (out + n % 2 * 2 ^ j) else deposit m d (j + 1) n out

theorem GoodS_nat {a b : Int} (h : GoodS a b = true) : 0 ≤ a ∧ a ≤ 65535 ∧ 0 ≤ b ∧ b ≤ 65535 ∧ a ≤ b := by
  unfold GoodS In at h
  simp only [Bool.and_eq_true, decide_eq_true_eq] at h
  omega
theorem tmod_word (x : Int) : (0 ≤ x ∧ Int.tmod x 65536 = x % 65536) ∨ (x < 0 ∧ Int.tmod x 65536 = -((-x) % 65536)) := by
  by_cases h : 0 ≤ x
  · exact Or.inl ⟨h, Int.tmod_eq_emod_of_nonneg h⟩
  · refine Or.inr ⟨by omega, ?_⟩
    have := Int.neg_tmod (-x) 65536
    rw [Int.neg_neg] at this
    rw [this, Int.tmod_eq_emod_of_nonneg (by omega)]
theorem word_wrap (x : Int) : Int.tmod (wrap64 ((Int.tmod x 65536) + 65536)) 65536 = x % 65536 := by
  rcases tmod_word x with ⟨h, e⟩ | ⟨h, e⟩
  · rw [e, wrap_id _ (by omega) (by omega), Int.tmod_eq_emod_of_nonneg (by omega)]; omega
  · rw [e, wrap_id _ (by omega) (by omega), Int.tmod_eq_emod_of_nonneg (by omega)]; omega
theorem bits_word (x : Int) : Go.bits .and .i64 x 65535 = x % 65536 := by
  show IntKind.i64.wrap (((BitVec.ofInt 64 x) &&& (BitVec.ofInt 64 65535)).toNat : Int) = _
  rw [BitVec.toNat_and, BitVec.toNat_ofInt, show (BitVec.ofInt 64 65535).toNat = 2 ^ 16 - 1 by decide, Nat.and_two_pow_sub_one_eq_mod]
  generalize h : (x % ((2 ^ 64 : Nat) : Int)).toNat = n
  rw [wrap_i64_nat _ (by omega)]
  omega
theorem wrap_i64 (y : Int) : IntKind.i64.wrap y = wrap64 y := by
  rw [IntKind.wrap_i64]; unfold wrap64; omega
theorem shl_nat (x : Int) (n : Nat) (h : n ≤ 60) : shl .i64 x (n : Int) = wrap64 (x * ((2 ^ n : Nat) : Int)) := by
  unfold shl
  have e : min (n : Int).toNat IntKind.i64.bits = n := by
    show min (n : Int).toNat 64 = n
    omega
  rw [e, Int.natCast_pow]
  exact wrap_i64 _
theorem shr_nat (x : Int) (n : Nat) (h : n ≤ 60) : shr .i64 x (n : Int) = x / ((2 ^ n : Nat) : Int) := by
  unfold shr
  have e : min (n : Int).toNat IntKind.i64.bits = n := by
    show min (n : Int).toNat 64 = n
    omega
  rw [e, Int.natCast_pow]; rfl
theorem mul_word {a b : Int} (h0 : 0 ≤ a) (h1 : a ≤ 65535) (h2 : 0 ≤ b) (h3 : b ≤ 65535) : 0 ≤ a * b ∧ a * b ≤ 4294836225 := ⟨Int.mul_nonneg h0 h2, Int.mul_le_mul h1 h3 h2 (by omega)⟩

def EndsM (x y : Int) : Int × Int := if x / 65536 = y / 65536 then (x % 65536, y % 65536) else (0, 65535)

theorem shift_lo {b : Int} (h0 : 0 ≤ b) (h1 : b ≤ 65535) : ∃ n : Nat, n < 16 ∧ Int.tmod b 16 = (n : Int) ∧ IntKind.u64.wrap (Int.tmod b 16) = (n : Int) := by
  refine ⟨(b % 16).toNat, by omega, ?_, ?_⟩
  · rw [Int.tmod_eq_emod_of_nonneg h0]; omega
  · rw [Int.tmod_eq_emod_of_nonneg h0, show IntKind.u64.wrap (b % 16) = b % 16 from ?_]
    · omega
    · obtain ⟨m, hm⟩ := Int.eq_ofNat_of_zero_le (show 0 ≤ b % 16 by omega)
      rw [hm]; exact u64_nat m (by omega)
theorem pow_word {n : Nat} (h : n < 16) : 1 ≤ ((2 ^ n : Nat) : Int) ∧ ((2 ^ n : Nat) : Int) ≤ 32768 := by
  have h1 : 2 ^ n ≤ 32768 := Nat.pow_le_pow_right (n := 2) (show 2 > 0 by decide) (show n ≤ 15 by omega)
  have h2 := Nat.two_pow_pos n
  generalize 2 ^ n = p at h1 h2 ⊢
  omega

def mayN (v m x : Nat) : Nat := if x = 1 then v ||| m else andn 65535 v
theorem mayN_lt {v m x : Nat} (hv : v < 65536) (hm : m < 65536) : mayN v m x < 65536 := by
  unfold mayN; split
  · exact word_or hv hm
  · exact word_andn (by omega)

def allIn (lo hi : Int) (l : List Int) : Bool := l.all fun x => In x lo hi
theorem allIn_drop (lo hi : Int) (l : List Int) (i : Nat) (h : i < l.length) : allIn lo hi (l.drop i) = (In l[i] lo hi && allIn lo hi (l.drop (i + 1))) := by
  unfold allIn
  rw [List.drop_eq_getElem_cons h]; rfl

/-- The places of a row that are true, from a number on. -/
def tr : List Bool → Nat → List Int
  | [], _ => []
  | b :: v, s => if b = true then (s : Int) :: tr v (s + 1) else tr v (s + 1)
theorem tr_ge : ∀ (v : List Bool) (s : Nat) (x : Int), x ∈ tr v s → (s : Int) ≤ x
  | [], _, _, h => by simp [tr] at h
  | b :: v, s, x, h => by
    unfold tr at h
    by_cases hb : b = true
    · rw [if_pos hb] at h
      rcases List.mem_cons.1 h with h | h
      · omega
      · have := tr_ge v (s + 1) x h; omega
    · rw [if_neg hb] at h
      have := tr_ge v (s + 1) x h; omega
theorem tr_len : ∀ (v : List Bool) (s : Nat), (tr v s).length ≤ v.length
  | [], _ => by simp [tr]
  | b :: v, s => by
    have := tr_len v (s + 1)
    unfold tr
    by_cases hb : b = true
    · rw [if_pos hb]; simp; omega
    · rw [if_neg hb]; simp; omega
theorem tr_mem : ∀ (v : List Bool) (s j : Nat) (h : j < v.length), decide (((s + j : Nat) : Int) ∈ tr v s) = v[j]
  | [], _, _, h => by simp at h
  | b :: v, s, 0, h => by
    unfold tr
    by_cases hb : b = true
    · rw [if_pos hb]; simp [hb]
    · rw [if_neg hb]
      have : ¬ ((s + 0 : Nat) : Int) ∈ tr v (s + 1) := fun h => by have := tr_ge v (s + 1) _ h; omega
      simp only [decide_eq_false this, List.getElem_cons_zero]
      exact (Bool.eq_false_iff.mpr hb).symm
  | b :: v, s, j + 1, h => by
    have ih := tr_mem v (s + 1) j (by simpa using h)
    rw [show s + 1 + j = s + (j + 1) by omega] at ih
    unfold tr
    rw [List.getElem_cons_succ, ← ih]
    by_cases hb : b = true
    · rw [if_pos hb]
      have : ¬ ((s + (j + 1) : Nat) : Int) = (s : Int) := by omega
      simp only [List.mem_cons, this, false_or]
    · rw [if_neg hb]
def putP : List Int → Int → List Int
  | [], x => [x]
  | a :: l, x => if a < x then a :: putP l x else if a = x then a :: l else x :: a :: l
theorem putP_low (l : List Int) (x : Int) (h : ∀ a, a ∈ l → x < a) : putP l x = x :: l := by
  cases l with
  | nil => rfl
  | cons a l =>
    have := h a (by simp)
    unfold putP
    rw [if_neg (by omega), if_neg (by omega)]
theorem putP_tr : ∀ (v : List Bool) (s j : Nat) (h : j < v.length), putP (tr v s) ((s + j : Nat) : Int) = tr (v.set j true) s
  | [], _, _, h => by simp at h
  | b :: v, s, 0, h => by
    have low : ∀ a, a ∈ tr v (s + 1) → (s : Int) < a := fun a ha => by have := tr_ge v (s + 1) a ha; omega
    rw [List.set_cons_zero]
    unfold tr
    rw [if_pos rfl, Nat.add_zero]
    by_cases hb : b = true
    · rw [if_pos hb]; unfold putP; rw [if_neg (by omega), if_pos (by omega)]
    · rw [if_neg hb]; exact putP_low _ _ low
  | b :: v, s, j + 1, h => by
    have ih := putP_tr v (s + 1) j (by simpa using h)
    rw [show s + 1 + j = s + (j + 1) by omega] at ih
    rw [List.set_cons_succ]
    unfold tr
    by_cases hb : b = true
    · rw [if_pos hb, if_pos hb, ← ih]; conv => lhs; unfold putP
      rw [if_pos (by omega)]
    · rw [if_neg hb, if_neg hb, ih]
theorem tr_falses : ∀ (m s : Nat), tr (List.replicate m false) s = []
  | 0, _ => rfl
  | m + 1, s => by rw [List.replicate_succ]; unfold tr; rw [if_neg (by simp)]; exact tr_falses m (s + 1)
theorem rdOf_bool (l : List Bool) (i : Nat) (h : i < l.length) : rdOf false l (i : Int) = l[i] := by unfold rdOf; simp [List.getD, h]

theorem l1Has_loop (l : List Int) (x : Int) (hl : l.length ≤ 1099511627776) : ∀ (d i : Nat), i + d = l.length → Ev (fun k => spec_l1Has.l0 k x l (l.length : Int) (i : Int)) (decide (x ∈ l.drop i))
  | 0, i, h => by
    rw [List.drop_eq_nil_of_le (by omega)]
    exact Ev.step (fun k => spec_l1Has.l0.eq_2 ..) (Ev.neg (by omega) (Ev.now _))
  | d + 1, i, h => by
    refine Ev.step (fun k => spec_l1Has.l0.eq_2 ..) (Ev.pos (by omega) (Ev.pos (by omega) (Ev.pos (by omega) ?_)))
    rw [rd_nat l i (by omega), w1 i (by omega), List.drop_eq_getElem_cons (show i < l.length by omega)]
    by_cases hx : l[i] = x
    · refine Ev.pos hx (Ev.at_ (Ev.now _) ?_); simp [hx]
    · refine Ev.neg hx (Ev.at_ (l1Has_loop l x hl d (i + 1) (by omega)) ?_)
      have : ¬ x = l[i] := fun h => hx h.symm
      simp only [List.mem_cons, this, false_or]
theorem l1Has_ev (l : List Int) (x : Int) (hl : l.length ≤ 1099511627776) : Ev (fun k => spec_l1Has.f k l x) (decide (x ∈ l)) := by
  have h := l1Has_loop l x hl l.length 0 (by omega)
  rw [List.drop_zero] at h
  exact h

theorem l1Put_loop (l : List Int) (x : Int) (hl : l.length ≤ 1099511627776) : ∀ (d i : Nat), i + d = l.length → Ev (fun k => spec_l1Put.l0 k l x (i : Int)) (l.take i ++ putP (l.drop i) x)
  | 0, i, h => by
    rw [List.drop_eq_nil_of_le (by omega), List.take_of_length_le (by omega)]
    refine Ev.step (fun k => spec_l1Put.l0.eq_2 ..) (Ev.neg (by omega) ?_)
    refine Ev.bindE rfl (Ev.pos (by omega) (Ev.pos (by omega) (Ev.bindE rfl ?_)))
    rw [Int.toNat_natCast, List.take_of_length_le (by omega), List.drop_eq_nil_of_le (by omega)]
    refine Ev.pos (by simp; omega) (Ev.bindE rfl (Ev.pos (by simp; omega) (Ev.bindE rfl (Ev.bindE rfl (Ev.pos (by simp; omega) (Ev.at_ (Ev.now _) ?_))))))
    simp [putP]
  | d + 1, i, h => by
    have hd := List.drop_eq_getElem_cons (show i < l.length by omega)
    have hlt : (l.take i).length = i := by simp; omega
    refine Ev.step (fun k => spec_l1Put.l0.eq_2 ..) (Ev.pos (by omega) (Ev.pos (by omega) ?_))
    rw [rd_nat l i (by omega), w1 i (by omega)]
    by_cases h1 : l[i] < x
    · refine Ev.pos h1 (Ev.at_ (l1Put_loop l x hl d (i + 1) (by omega)) ?_)
      rw [hd]
      conv => rhs; unfold putP
      rw [if_pos h1, List.take_succ_eq_append_getElem (show i < l.length by omega), List.append_assoc]; rfl
    · refine Ev.neg h1 ?_
      by_cases h2 : l[i] = x
      · refine Ev.pos h2 (Ev.at_ (Ev.now _) ?_)
        rw [hd]; unfold putP
        rw [if_neg h1, if_pos h2, ← hd, List.take_append_drop]
      · refine Ev.neg h2 (Ev.bindE rfl (Ev.pos (by omega) (Ev.bindE rfl ?_)))
        rw [Int.toNat_natCast]
        refine Ev.pos (by simp; omega) (Ev.bindE rfl (Ev.pos (by simp; omega) (Ev.bindE rfl (Ev.bindE rfl (Ev.pos (by simp; omega) (Ev.at_ (Ev.now _) ?_))))))
        rw [hd]; unfold putP
        rw [if_neg h1, if_neg h2]; simp
theorem l1Put_ev (l : List Int) (x : Int) (hl : l.length ≤ 1099511627776) : Ev (fun k => spec_l1Put.f k l x) (putP l x) := by
  have h := l1Put_loop l x hl l.length 0 (by omega)
  rw [List.drop_zero, List.take_zero, List.nil_append] at h
  exact h

/-- The places of a row that are true and of which a test holds. -/
def trp (f : Nat → Bool) : List Bool → Nat → List Int
  | [], _ => []
  | b :: v, s => if (b && f s) = true then (s : Int) :: trp f v (s + 1) else trp f v (s + 1)
theorem trp_filter (f : Nat → Bool) (g : Int → Bool) (hg : ∀ i : Nat, g (i : Int) = f i) : ∀ (v : List Bool) (s : Nat), (tr v s).filter g = trp f v s
  | [], _ => rfl
  | b :: v, s => by
    have ih := trp_filter f g hg v (s + 1)
    unfold tr trp
    by_cases hb : b = true
    · rw [if_pos hb, hb, Bool.true_and]
      by_cases hf : f s = true
      · rw [if_pos hf, List.filter_cons_of_pos (by rw [hg, hf]), ih]
      · rw [if_neg hf, List.filter_cons_of_neg (by rw [hg]; exact hf), ih]
    · rw [if_neg hb, Bool.eq_false_iff.mpr hb, Bool.false_and, if_neg (by simp), ih]
theorem tr_lt : ∀ (v : List Bool) (s : Nat) (x : Int), x ∈ tr v s → x < ((s + v.length : Nat) : Int)
  | [], _, _, h => by simp [tr] at h
  | b :: v, s, x, h => by
    unfold tr at h
    by_cases hb : b = true
    · rw [if_pos hb] at h
      rcases List.mem_cons.1 h with h | h
      · simp; omega
      · have := tr_lt v (s + 1) x h; simp; omega
    · rw [if_neg hb] at h
      have := tr_lt v (s + 1) x h; simp; omega

theorem slices_Equal_bool_bool_loop (a b : List Bool) (h : a.length = b.length) (hl : a.length ≤ 1048576) : ∀ (d i : Nat), i + d = a.length → Ev (fun k => slices_Equal_bool_bool.l0 k a b (a.length : Int) (i : Int)) (decide (a.drop i = b.drop i))
  | 0, i, hi => by
    rw [List.drop_eq_nil_of_le (by omega), List.drop_eq_nil_of_le (by omega)]
    exact Ev.step (fun k => slices_Equal_bool_bool.l0.eq_2 ..) (Ev.neg (by omega) (Ev.at_ (Ev.now _) (by simp)))
  | d + 1, i, hi => by
    refine Ev.step (fun k => slices_Equal_bool_bool.l0.eq_2 ..) (Ev.pos (by omega) (Ev.pos (by omega) (Ev.pos (by omega) (Ev.pos (by omega) ?_))))
    rw [rdOf_nat false a i (by omega), rdOf_nat false b i (by omega), w1 i (by omega), List.drop_eq_getElem_cons (show i < a.length by omega), List.drop_eq_getElem_cons (show i < b.length by omega)]
    by_cases hx : a[i] = b[i]
    · refine Ev.neg (by simp [hx]) (Ev.at_ (slices_Equal_bool_bool_loop a b h hl d (i + 1) (by omega)) ?_)
      simp only [hx, List.cons.injEq, true_and]
    · refine Ev.pos (by simpa using hx) (Ev.at_ (Ev.now _) ?_)
      simp only [List.cons.injEq, hx, false_and, decide_false]

theorem equalB_ev (a b : List Bool) (hl : a.length ≤ 1048576) : Ev (fun k => slices_Equal_bool_bool.f k a b) (decide (a = b)) := by
  unfold slices_Equal_bool_bool.f
  by_cases h : a.length = b.length
  · have := slices_Equal_bool_bool_loop a b h hl a.length 0 (by omega)
    rw [List.drop_zero, List.drop_zero] at this
    exact Ev.pos (by omega) this
  · refine Ev.neg (by omega) (Ev.at_ (Ev.now _) ?_)
    exact (decide_eq_false (fun e => h (by rw [e]))).symm

/-- One more arc: the row that comes of a row. -/
def stW (now : List Bool) : List S68 → List Bool → List Bool
  | [], out => out
  | a :: l, out => stW now l (if now.getD a.f0.toNat false = true then out.set a.f1.toNat true else out)
theorem stW_len (now : List Bool) : ∀ (l : List S68) (out : List Bool), (stW now l out).length = out.length
  | [], _ => rfl
  | a :: l, out => by
    unfold stW
    rw [stW_len now l]
    split <;> simp
theorem stW_up (now : List Bool) : ∀ (l : List S68) (out : List Bool) (j : Nat), out.getD j false = true → (stW now l out).getD j false = true
  | [], _, _, h => h
  | a :: l, out, j, h => by
    unfold stW
    refine stW_up now l _ j ?_
    split
    · simp only [List.getD, List.getElem?_set] at h ⊢
      by_cases e : a.f1.toNat = j
      · subst e
        by_cases hl : a.f1.toNat < out.length
        · simp [hl]
        · rw [List.getElem?_eq_none (by omega)] at h; cases h
      · rw [if_neg e]; exact h
    · exact h
def itW (l : List S68) : List Bool → Nat → List Bool
  | v, 0 => v
  | v, n + 1 => itW l (stW v l v) n
theorem itW_len (l : List S68) : ∀ (n : Nat) (v : List Bool), (itW l v n).length = v.length
  | 0, _ => rfl
  | n + 1, v => by
    show (itW l (stW v l v) n).length = _
    rw [itW_len l n, stW_len]
theorem itW_succ (l : List S68) : ∀ (n : Nat) (v : List Bool), itW l v (n + 1) = stW (itW l v n) l (itW l v n)
  | 0, _ => rfl
  | n + 1, v => itW_succ l n (stW v l v)
def ArcsIn (N : Nat) (l : List S68) : Prop := l.length ≤ 30 ∧ ∀ j (h : j < l.length), (0 ≤ l[j].f0 ∧ l[j].f0 < (N : Int)) ∧ (0 ≤ l[j].f1 ∧ l[j].f1 < (N : Int))
theorem within_inner (N : Nat) (hN : N ≤ 6) (l : List S68) (hl : ArcsIn N l) (now : List Bool) (hn : now.length = N) (m x : Int) (R : List Bool) : ∀ (d i : Nat) (out : List Bool), i + d = l.length → out.length = N → Ev (fun k => impl_within.l0 k l (stW now (l.drop i) out) m (wrap64 (x + 1))) R → Ev (fun k => impl_within.l1 k l out now m x l (l.length : Int) (i : Int)) R
  | 0, i, out, hi, ho, h => by
    rw [List.drop_eq_nil_of_le (by omega)] at h
    exact Ev.step (fun k => impl_within.l1.eq_2 ..) (Ev.neg (by omega) h)
  | d + 1, i, out, hi, ho, h => by
    have hil : i < l.length := by omega
    have h30 := hl.1
    have hb := hl.2 i hil
    rw [List.drop_eq_getElem_cons hil] at h
    unfold stW at h
    refine Ev.step (fun k => impl_within.l1.eq_2 ..) ?_
    rw [Arcb_nat l i hil, w1 i (by omega)]
    refine Ev.pos (by omega) (Ev.pos (by omega) (Ev.pos (by omega) (Ev.pos (by omega) (Ev.pos (by omega) ?_))))
    have e : rdOf false now l[i].f0 = now.getD l[i].f0.toNat false := rfl
    rw [e]
    by_cases hx : now.getD l[i].f0.toNat false = true
    · rw [if_pos hx] at h
      exact Ev.pos hx (Ev.pos (by omega) (Ev.pos (by omega) (within_inner N hN l hl now hn m x R d (i + 1) _ (by omega) (by simpa using ho) h)))
    · rw [if_neg hx] at h
      exact Ev.neg hx (within_inner N hN l hl now hn m x R d (i + 1) out (by omega) ho h)
theorem within_outer (N : Nat) (hN : N ≤ 6) (l : List S68) (hl : ArcsIn N l) (m : Nat) (hm : m ≤ 1000) : ∀ (d i : Nat) (v : List Bool), i + d = m → v.length = N → Ev (fun k => impl_within.l0 k l v (m : Int) (i : Int)) (itW l v d)
  | 0, i, v, hi, hv => Ev.step (fun k => impl_within.l0.eq_2 ..) (Ev.neg (by omega) (Ev.now _))
  | d + 1, i, v, hi, hv => by
    have ih := within_outer N hN l hl m hm d (i + 1) (stW v l v) (by omega) (by rw [stW_len]; exact hv)
    have hc : slices_Clone_bool_bool.f 0 v = some v := by unfold slices_Clone_bool_bool.f; rw [if_pos (by omega)]
    have hi2 := within_inner N hN l hl v hv (m : Int) (i : Int) (itW l v (d + 1)) l.length 0 v (by omega) hv (by rw [List.drop_zero, w1 i (by omega)]; exact ih)
    exact Ev.step (fun k => impl_within.l0.eq_2 ..) (Ev.pos (by omega) (Ev.bindE hc hi2))
def startW (N a : Nat) : List Bool := (List.replicate N false).set a true
theorem startW_len (N a : Nat) : (startW N a).length = N := by simp [startW]
theorem within_ev (N : Nat) (hN : N ≤ 6) (l : List S68) (hl : ArcsIn N l) (a m : Nat) (ha : a < N) (hm : m ≤ 1000) : Ev (fun k => impl_within.f k (N : Int) l (a : Int) (m : Int)) (itW l (startW N a) m) := by
  have h := within_outer N hN l hl m hm m 0 (startW N a) (by omega) (startW_len N a)
  unfold impl_within.f
  refine Ev.pos (by omega) (Ev.pos (by omega) (Ev.bindE rfl (Ev.pos (by omega) (Ev.pos (by simp; omega) ?_))))
  exact h
theorem reachW_inner (N : Nat) (hN : N ≤ 6) (l : List S68) (hl : ArcsIn N l) (now : List Bool) (hn : now.length = N) : ∀ (d i : Nat) (out : List Bool), i + d = l.length → out.length = N → Ev (fun k => spec_l12Reach.l1 k l (tr now 0) (tr out 0) (i : Int)) (tr (stW now (l.drop i) out) 0)
  | 0, i, out, hi, ho => by
    rw [List.drop_eq_nil_of_le (by omega)]
    exact Ev.step (fun k => spec_l12Reach.l1.eq_2 ..) (Ev.neg (by omega) (Ev.now _))
  | d + 1, i, out, hi, ho => by
    have hil : i < l.length := by omega
    have h30 := hl.1
    have hb := hl.2 i hil
    have t1 := tr_len now 0
    have t2 := tr_len out 0
    rw [List.drop_eq_getElem_cons hil]
    unfold stW
    refine Ev.step (fun k => spec_l12Reach.l1.eq_2 ..) ?_
    rw [Arcb_nat l i hil, w1 i (by omega)]
    obtain ⟨p, hp⟩ := Int.eq_ofNat_of_zero_le hb.1.1
    obtain ⟨q, hq⟩ := Int.eq_ofNat_of_zero_le hb.2.1
    rw [hp, hq, Int.toNat_natCast, Int.toNat_natCast]
    refine Ev.pos (by omega) (Ev.pos (by omega) (Ev.bind (l1Has_ev (tr now 0) (p : Int) (by omega)) ?_))
    have e1 := tr_mem now 0 p (by omega)
    have e2 : now.getD p false = now[p]'(by omega) := by simp [List.getD, show p < now.length by omega]
    rw [Nat.zero_add] at e1
    rw [e1, ← e2]
    by_cases hx : now.getD p false = true
    · rw [if_pos hx]
      have e3 := putP_tr out 0 q (by omega)
      rw [Nat.zero_add] at e3
      refine Ev.pos hx (Ev.bind (l1Put_ev (tr out 0) (q : Int) (by omega)) ?_)
      rw [e3]
      exact reachW_inner N hN l hl now hn d (i + 1) _ (by omega) (by simpa using ho)
    · rw [if_neg hx]
      exact Ev.neg hx (reachW_inner N hN l hl now hn d (i + 1) out (by omega) ho)
theorem reachW_outer (N : Nat) (hN : N ≤ 6) (l : List S68) (hl : ArcsIn N l) : ∀ (d : Nat) (v : List Bool), d ≤ 1000 → v.length = N → Ev (fun k => spec_l12Reach.l0 k l (tr v 0) (d : Int)) (tr (itW l v d) 0)
  | 0, v, hd, hv => Ev.step (fun k => spec_l12Reach.l0.eq_2 ..) (Ev.neg (by omega) (Ev.now _))
  | d + 1, v, hd, hv => by
    have ih := reachW_outer N hN l hl d (stW v l v) (by omega) (by rw [stW_len]; exact hv)
    have h := reachW_inner N hN l hl v hv l.length 0 v (by omega) hv
    rw [List.drop_zero] at h
    refine Ev.step (fun k => spec_l12Reach.l0.eq_2 ..) (Ev.pos (by omega) (Ev.bind h ?_))
    rw [show wrap64 (((d + 1 : Nat) : Int) - 1) = (d : Int) by unfold wrap64; omega]
    exact ih
theorem reachW_ev (N : Nat) (hN : N ≤ 6) (l : List S68) (hl : ArcsIn N l) (a m : Nat) (ha : a < N) (hm : m ≤ 1000) : Ev (fun k => spec_l12Reach.f k l (a : Int) (m : Int)) (tr (itW l (startW N a) m) 0) := by
  have h := reachW_outer N hN l hl m (startW N a) hm (startW_len N a)
  have e := putP_tr (List.replicate N false) 0 a (by simp; omega)
  rw [tr_falses, Nat.zero_add] at e
  have e2 : tr (startW N a) 0 = [(a : Int)] := e.symm
  rw [e2] at h
  exact h
theorem tr_cmp : ∀ (v w : List Bool) (s : Nat), v.length = w.length → (∀ j, v.getD j false = true → w.getD j false = true) → (tr v s).length ≤ (tr w s).length ∧ ((tr v s).length = (tr w s).length → v = w)
  | [], [], _, _, _ => ⟨Nat.le_refl _, fun _ => rfl⟩
  | [], _ :: _, _, h, _ => by simp at h
  | _ :: _, [], _, h, _ => by simp at h
  | b :: v, c :: w, s, h, hj => by
    have ih := tr_cmp v w (s + 1) (by simpa using h) (fun j hv => by simpa using hj (j + 1) (by simpa using hv))
    have h0 := hj 0
    have e1 : ∀ u : List Bool, tr (true :: u) s = (s : Int) :: tr u (s + 1) := fun _ => rfl
    have e0 : ∀ u : List Bool, tr (false :: u) s = tr u (s + 1) := fun _ => rfl
    cases b <;> cases c
    · rw [e0, e0]; exact ⟨ih.1, fun e => by rw [ih.2 e]⟩
    · rw [e0, e1, List.length_cons]; exact ⟨by omega, fun e => by omega⟩
    · exact absurd (h0 rfl) (by simp)
    · rw [e1, e1, List.length_cons, List.length_cons]; exact ⟨by omega, fun e => by rw [ih.2 (by omega)]⟩

theorem enough_loop (N : Nat) (hN : N ≤ 6) (l : List S68) (hl : ArcsIn N l) (a : Nat) (ha : a < N) : ∀ (m i : Nat), N ≤ (tr (itW l (startW N a) i) 0).length + m → i + m ≤ 500 → Both (fun _ => True) (fun k => spec_EnoughFor.l0 k l (a : Int) (i : Int)) (fun k => impl_EnoughFor.l0 k (N : Int) l (a : Int) (i : Int)) := by
  intro m
  induction m with
  | zero =>
    intro i h hi
    have w0 := within_ev N hN l hl a i ha (by omega)
    have w2 := within_ev N hN l hl a (i + 1) ha (by omega)
    have r0 := reachW_ev N hN l hl a i ha (by omega)
    have r2 := reachW_ev N hN l hl a (i + 1) ha (by omega)
    have l0 : (itW l (startW N a) i).length = N := by rw [itW_len, startW_len]
    have l2 : (itW l (startW N a) (i + 1)).length = N := by rw [itW_len, startW_len]
    have hc := tr_cmp (itW l (startW N a) i) (itW l (startW N a) (i + 1)) 0 (by omega) (fun j hj => by rw [itW_succ]; exact stW_up _ _ _ j hj)
    have t2 := tr_len (itW l (startW N a) (i + 1)) 0
    have he := hc.2 (by omega)
    have eq := equalB_ev (itW l (startW N a) i) (itW l (startW N a) (i + 1)) (by omega)
    rw [decide_eq_true he] at eq
    refine Both.stepL (fun k => spec_EnoughFor.l0.eq_2 ..) (Both.stepR (fun k => impl_EnoughFor.l0.eq_2 ..) ?_)
    rw [w1 i (by omega)]
    exact Both.bindL r2 (Both.bindL r0 (Both.negL (by omega) (Both.bindR w0 (Both.bindR w2 (Both.bindR eq (Both.posR rfl (Both.now _ trivial)))))))
  | succ m ih =>
    intro i h hi
    have w0 := within_ev N hN l hl a i ha (by omega)
    have w2 := within_ev N hN l hl a (i + 1) ha (by omega)
    have r0 := reachW_ev N hN l hl a i ha (by omega)
    have r2 := reachW_ev N hN l hl a (i + 1) ha (by omega)
    have l0 : (itW l (startW N a) i).length = N := by rw [itW_len, startW_len]
    have l2 : (itW l (startW N a) (i + 1)).length = N := by rw [itW_len, startW_len]
    have hc := tr_cmp (itW l (startW N a) i) (itW l (startW N a) (i + 1)) 0 (by omega) (fun j hj => by rw [itW_succ]; exact stW_up _ _ _ j hj)
    have eq := equalB_ev (itW l (startW N a) i) (itW l (startW N a) (i + 1)) (by omega)
    refine Both.stepL (fun k => spec_EnoughFor.l0.eq_2 ..) (Both.stepR (fun k => impl_EnoughFor.l0.eq_2 ..) ?_)
    rw [w1 i (by omega)]
    by_cases he : (tr (itW l (startW N a) i) 0).length = (tr (itW l (startW N a) (i + 1)) 0).length
    · rw [decide_eq_true (hc.2 he)] at eq
      exact Both.bindL r2 (Both.bindL r0 (Both.negL (by omega) (Both.bindR w0 (Both.bindR w2 (Both.bindR eq (Both.posR rfl (Both.now _ trivial)))))))
    · have hne : itW l (startW N a) i ≠ itW l (startW N a) (i + 1) := fun q => he (by rw [← q])
      rw [decide_eq_false hne] at eq
      exact Both.bindL r2 (Both.bindL r0 (Both.posL (by omega) (Both.bindR w0 (Both.bindR w2 (Both.bindR eq (Both.negR (by simp) (ih (i + 1) (by omega) (by omega))))))))
theorem enoughFor_both (n : Int) (l : List S68) (a : Int) (hl : l.length ≤ 1048576) : Both (fun _ => True) (fun k => spec_EnoughFor.f k n l a) (fun k => impl_EnoughFor.f k n l a) := by
  unfold spec_EnoughFor.f impl_EnoughFor.f
  have bad : ∀ b, b = true → Both (fun _ => True) (fun k => spec_EnoughFor.j0 k l a b) (fun k => impl_EnoughFor.j0 k n l a b) := fun b hb => by
    rw [hb]; exact Both.stepL (fun k => spec_EnoughFor.j0.eq_2 ..) (Both.stepR (fun k => impl_EnoughFor.j0.eq_2 ..) (Both.posL rfl (Both.posR rfl (Both.now _ trivial))))
  refine (goodArcs_both n l (by omega)).bind2 (fun r hr => Both.ite (fun h => ?_) (fun _ => bad _ rfl))
  obtain ⟨hn, h30, hok⟩ := hr h
  rw [wrap_id (n - 1) (by omega) (by omega)]
  refine Both.bindEL (spec_l1In_eq ..) (Both.bindER (impl_in_eq ..) ?_)
  by_cases hi : In a 0 (n - 1) = true
  · have hi' := In_true.1 hi
    obtain ⟨N, rfl⟩ := Int.eq_ofNat_of_zero_le (show 0 ≤ n by omega)
    obtain ⟨A, rfl⟩ := Int.eq_ofNat_of_zero_le hi'.1
    rw [hi]
    refine Both.stepL (fun k => spec_EnoughFor.j0.eq_2 ..) (Both.stepR (fun k => impl_EnoughFor.j0.eq_2 ..) (Both.negL (by simp) (Both.negR (by simp) ?_)))
    exact enough_loop N (by omega) l ⟨h30, fun j hj => by have := hok j hj (by omega); omega⟩ A (by omega) N 0 (by omega) (by omega)
  · exact bad _ (by rw [Bool.eq_false_iff.mpr hi]; rfl)

theorem FnExactEnoughFor : laws_FnExactEnoughFor.Pure := by
  intro n l a _ hl _
  refine Ev.rounds ?_
  unfold laws_FnExactEnoughFor.f
  by_cases hb : l.length ≤ 1048576
  · obtain ⟨⟨v, ok⟩, h1, h2, _⟩ := enoughFor_both n (l.map cvArc) a (by simp; omega)
    have ht := toArcS_ev l hb
    have hg := eqArcS_self (l.map cvArc) (by simp; omega)
    refine Ev.bindE (szArcS_ok l _ (by omega) (by omega)) <| Ev.neg (by omega) <| Ev.bind ht <| Ev.bind h1 <| Ev.bind ht <| Ev.bind h2 <| Ev.pos rfl ?_
    exact Ev.step (fun k => laws_FnExactEnoughFor.j0.eq_2 ..) (Ev.neg (by simp) <| Ev.bind ht <| Ev.bind hg <| Ev.pos rfl (Ev.now _))
  · exact Ev.bindE (szArcS_big l _ (by omega) (by omega) (by omega) hl.1) (Ev.pos (by omega) (Ev.now _))

end Go.Proofs.Ytalikhegkfmdhaa.Pure
