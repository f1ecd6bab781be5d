/- Proved here: the pure statement of the law FnExactLayOut: what the printed functions compute answers true. Conditions: the statement's own bounds. -/
import Derived.Test.YtalikhegkfmdhaaPG3x1
import Derived.Test.YtalikhegkfmdhaaPG3x2
import Derived.Test.YtalikhegkfmdhaaPG3x5
import Derived.Test.YtalikhegkfmdhaaPG3x6
namespace Go.Proofs.Ytalikhegkfmdhaa.Pure
open Go Go.RowKit Go.Proofs.Ytalikhegkfmdhaa.PG3 Go.Proofs.YtalikhegkfmdhaaW.PrintWords Go.Proofs.YtalikhegkfmdhaaW.PrintLast Go.Proofs.YtalikhegkfmdhaaW.PrintMore
set_option linter.unusedVariables false
set_option linter.unusedSimpArgs false

/-- A number lies between two. -/
def In (a lo hi : Int) : Bool := decide (lo ≤ a) && decide (a ≤ hi)
theorem In_true {a lo hi : Int} : In a lo hi = true ↔ lo ≤ a ∧ a ≤ hi := by simp [In]
theorem In_false {a lo hi : Int} : In a lo hi = false ↔ ¬ (lo ≤ a ∧ a ≤ hi) := by rw [← In_true]; simp
theorem In_ite {a lo hi : Int} : (if a ≥ lo then some (decide (a ≤ hi)) else some false) = some (In a lo hi) := by
  unfold In; by_cases h : lo ≤ a <;> simp [h]
theorem ite_some {α : Type} {c : Prop} [Decidable c] (a b : α) : (if c then some a else some b) = some (if c then a else b) := by split <;> rfl
theorem ne_self_bool (b : Bool) : ((b != b) = true) = False := by simp

theorem spec_l1In_eq (a b c : Int) : spec_l1In.f a b c = some (In a b c) := by unfold spec_l1In.f; exact In_ite

theorem impl_in_eq (a b c : Int) : impl_in.f a b c = some (In a b c) := by unfold impl_in.f; exact In_ite

/-- The bits of a number that another one has not. -/
def andn (a b : Nat) : Nat := a ^^^ (a &&& b)
theorem testBit_andn (a b i : Nat) : (andn a b).testBit i = (a.testBit i && !b.testBit i) := by
  unfold andn; rw [Nat.testBit_xor, Nat.testBit_and]; cases a.testBit i <;> cases b.testBit i <;> rfl
theorem andn_le (a b : Nat) : andn a b ≤ a := by
  have h : andn a b &&& a = andn a b := by
    apply Nat.eq_of_testBit_eq; intro i; rw [Nat.testBit_and, testBit_andn]; cases a.testBit i <;> cases b.testBit i <;> rfl
  rw [← h]; exact Nat.and_le_right
theorem wrap_i64_nat (n : Nat) (h : n < 9223372036854775808) : IntKind.i64.wrap (n : Int) = n := by
  rw [IntKind.wrap_i64]; omega
theorem ofInt_nat (n : Nat) : BitVec.ofInt 64 (n : Int) = BitVec.ofNat 64 n := BitVec.ofInt_natCast 64 n
theorem bits_and (a b : Nat) (ha : a < 9223372036854775808) (hb : b < 9223372036854775808) : Go.bits .and .i64 a b = ((a &&& b : Nat) : Int) := by
  show IntKind.i64.wrap (((BitVec.ofInt 64 (a : Int)) &&& (BitVec.ofInt 64 (b : Int))).toNat : Int) = _
  rw [ofInt_nat, ofInt_nat, BitVec.toNat_and, BitVec.toNat_ofNat, BitVec.toNat_ofNat, Nat.mod_eq_of_lt (by omega), Nat.mod_eq_of_lt (by omega)]
  exact wrap_i64_nat _ (Nat.lt_of_le_of_lt Nat.and_le_left ha)
theorem or_lt63 {a b : Nat} (ha : a < 9223372036854775808) (hb : b < 9223372036854775808) : a ||| b < 9223372036854775808 := Nat.or_lt_two_pow (n := 63) ha hb
theorem xor_lt63 {a b : Nat} (ha : a < 9223372036854775808) (hb : b < 9223372036854775808) : a ^^^ b < 9223372036854775808 := Nat.xor_lt_two_pow (n := 63) ha hb
theorem bits_or (a b : Nat) (ha : a < 9223372036854775808) (hb : b < 9223372036854775808) : Go.bits .or .i64 a b = ((a ||| b : Nat) : Int) := by
  show IntKind.i64.wrap (((BitVec.ofInt 64 (a : Int)) ||| (BitVec.ofInt 64 (b : Int))).toNat : Int) = _
  rw [ofInt_nat, ofInt_nat, BitVec.toNat_or, BitVec.toNat_ofNat, BitVec.toNat_ofNat, Nat.mod_eq_of_lt (by omega), Nat.mod_eq_of_lt (by omega)]
  exact wrap_i64_nat _ (or_lt63 ha hb)
theorem bits_xor (a b : Nat) (ha : a < 9223372036854775808) (hb : b < 9223372036854775808) : Go.bits .xor .i64 a b = ((a ^^^ b : Nat) : Int) := by
  show IntKind.i64.wrap (((BitVec.ofInt 64 (a : Int)) ^^^ (BitVec.ofInt 64 (b : Int))).toNat : Int) = _
  rw [ofInt_nat, ofInt_nat, BitVec.toNat_xor, BitVec.toNat_ofNat, BitVec.toNat_ofNat, Nat.mod_eq_of_lt (by omega), Nat.mod_eq_of_lt (by omega)]
  exact wrap_i64_nat _ (xor_lt63 ha hb)
theorem bits_andNot (a b : Nat) (ha : a < 9223372036854775808) (hb : b < 9223372036854775808) : Go.bits .andNot .i64 a b = ((andn a b : Nat) : Int) := by
  show IntKind.i64.wrap (((BitVec.ofInt 64 (a : Int)) &&& ~~~ (BitVec.ofInt 64 (b : Int))).toNat : Int) = _
  rw [ofInt_nat, ofInt_nat]
  have h : (BitVec.ofNat 64 a &&& ~~~ BitVec.ofNat 64 b).toNat = andn a b := by
    apply Nat.eq_of_testBit_eq; intro i
    rw [testBit_andn]
    by_cases hi : i < 64
    · rw [BitVec.testBit_toNat, BitVec.getLsbD_and, BitVec.getLsbD_not, BitVec.getLsbD_ofNat, BitVec.getLsbD_ofNat]
      simp [hi]
    · have h1 : a.testBit i = false := Nat.testBit_lt_two_pow (Nat.lt_of_lt_of_le ha (by have := Nat.pow_le_pow_right (show 0 < 2 by decide) (show 63 ≤ i by omega); omega))
      rw [h1, BitVec.testBit_toNat, BitVec.getLsbD_of_ge _ _ (by omega)]; rfl
  rw [h]
  exact wrap_i64_nat _ (Nat.lt_of_le_of_lt (andn_le a b) ha)
theorem and_zero_bit {a b : Nat} (h : a &&& b = 0) (i : Nat) : (a.testBit i && b.testBit i) = false := by rw [← Nat.testBit_and, h]; simp
theorem nat_of {x hi : Int} (h : In x 0 hi = true) : ∃ n : Nat, x = (n : Int) ∧ (n : Int) ≤ hi := by
  have h := In_true.1 h
  exact ⟨x.toNat, by omega, by omega⟩

theorem word_or {a b : Nat} (ha : a < 65536) (hb : b < 65536) : a ||| b < 65536 := Nat.or_lt_two_pow (n := 16) ha hb
theorem word_xor {a b : Nat} (ha : a < 65536) (hb : b < 65536) : a ^^^ b < 65536 := Nat.xor_lt_two_pow (n := 16) ha hb
theorem word_and {a b : Nat} (ha : a < 65536) : a &&& b < 65536 := Nat.lt_of_le_of_lt Nat.and_le_left ha
theorem word_andn {a b : Nat} (ha : a < 65536) : andn a b < 65536 := Nat.lt_of_le_of_lt (andn_le a b) ha

theorem Ev.pos {α : Type} {c : Prop} [Decidable c] {A B : Nat → Option α} {r : α} (h : c) (e : Ev A r) : Ev (fun k => if c then A k else B k) r := Ev.congr (fun _ => if_pos h) e
theorem Ev.neg {α : Type} {c : Prop} [Decidable c] {A B : Nat → Option α} {r : α} (h : ¬ c) (e : Ev B r) : Ev (fun k => if c then A k else B k) r := Ev.congr (fun _ => if_neg h) e
theorem Ev.bindE {α β : Type} {g : Option α} {f : Nat → α → Option β} {a : α} {r : β} (h : g = some a) (k : Ev (fun n => f n a) r) : Ev (fun n => g.bind (f n)) r := by subst h; exact k
theorem Ev.at_ {α : Type} {g : Nat → Option α} {r r' : α} (h : Ev g r) (e : r = r') : Ev g r' := e ▸ h
theorem Ev.one {α : Type} {g : Nat → Option α} {r r' : α} (h : Ev g r) (h' : Ev g r') : r = r' := by
  obtain ⟨K, h⟩ := h; obtain ⟨K', h'⟩ := h'
  have a := h (max K K') (by omega); have b := h' (max K K') (by omega)
  rw [a] at b; exact Option.some.inj b
/-- Two texts come to one answer, of which P holds. -/
def Both {α : Type} (P : α → Prop) (g f : Nat → Option α) : Prop := ∃ r, Ev g r ∧ Ev f r ∧ P r
theorem Both.now {α : Type} {P : α → Prop} (r : α) (h : P r) : Both P (fun _ => some r) (fun _ => some r) := ⟨r, Ev.now r, Ev.now r, h⟩
theorem Both.now2 {α : Type} {P : α → Prop} (r r' : α) (e : r = r') (h : P r) : Both P (fun _ => some r) (fun _ => some r') := ⟨r, Ev.now r, e ▸ Ev.now r, h⟩
theorem Both.mono {α : Type} {P Q : α → Prop} {g f : Nat → Option α} (h : Both P g f) (hq : ∀ r, P r → Q r) : Both Q g f := by obtain ⟨r, a, b, c⟩ := h; exact ⟨r, a, b, hq r c⟩
theorem Both.congrL {α : Type} {P : α → Prop} {g g' f : Nat → Option α} (e : ∀ k, g k = g' k) (h : Both P g' f) : Both P g f := by obtain ⟨r, a, b, c⟩ := h; exact ⟨r, a.congr e, b, c⟩
theorem Both.congrR {α : Type} {P : α → Prop} {g f f' : Nat → Option α} (e : ∀ k, f k = f' k) (h : Both P g f') : Both P g f := by obtain ⟨r, a, b, c⟩ := h; exact ⟨r, a, b.congr e, c⟩
theorem Both.posL {α : Type} {P : α → Prop} {c : Prop} [Decidable c] {A B f : Nat → Option α} (h : c) (e : Both P A f) : Both P (fun k => if c then A k else B k) f := e.congrL (fun _ => if_pos h)
theorem Both.negL {α : Type} {P : α → Prop} {c : Prop} [Decidable c] {A B f : Nat → Option α} (h : ¬ c) (e : Both P B f) : Both P (fun k => if c then A k else B k) f := e.congrL (fun _ => if_neg h)
theorem Both.posR {α : Type} {P : α → Prop} {c : Prop} [Decidable c] {A B f : Nat → Option α} (h : c) (e : Both P f A) : Both P f (fun k => if c then A k else B k) := e.congrR (fun _ => if_pos h)
theorem Both.negR {α : Type} {P : α → Prop} {c : Prop} [Decidable c] {A B f : Nat → Option α} (h : ¬ c) (e : Both P f B) : Both P f (fun k => if c then A k else B k) := e.congrR (fun _ => if_neg h)
theorem Both.ite {α : Type} {P : α → Prop} {c : Prop} [Decidable c] {A B A' B' : Nat → Option α} (h1 : c → Both P A A') (h2 : ¬ c → Both P B B') : Both P (fun k => if c then A k else B k) (fun k => if c then A' k else B' k) := by
  by_cases h : c
  · exact ((h1 h).posL h).posR h
  · exact ((h2 h).negL h).negR h
theorem Both.stepL {α : Type} {P : α → Prop} {g g' f : Nat → Option α} (e : ∀ k, g (k + 1) = g' k) (h : Both P g' f) : Both P g f := by obtain ⟨r, a, b, c⟩ := h; exact ⟨r, a.step e, b, c⟩
theorem Both.stepR {α : Type} {P : α → Prop} {g f f' : Nat → Option α} (e : ∀ k, f (k + 1) = f' k) (h : Both P g f') : Both P g f := by obtain ⟨r, a, b, c⟩ := h; exact ⟨r, a, b.step e, c⟩
theorem Both.bindL {α β : Type} {P : β → Prop} {g : Nat → Option α} {F : Nat → α → Option β} {f : Nat → Option β} {a : α} (h : Ev g a) (e : Both P (fun k => F k a) f) : Both P (fun k => (g k).bind (F k)) f := by obtain ⟨r, x, y, c⟩ := e; exact ⟨r, Ev.bind h x, y, c⟩
theorem Both.bindR {α β : Type} {P : β → Prop} {g : Nat → Option α} {F : Nat → α → Option β} {f : Nat → Option β} {a : α} (h : Ev g a) (e : Both P f (fun k => F k a)) : Both P f (fun k => (g k).bind (F k)) := by obtain ⟨r, x, y, c⟩ := e; exact ⟨r, x, Ev.bind h y, c⟩
theorem Both.bindEL {α β : Type} {P : β → Prop} {g : Option α} {F : Nat → α → Option β} {f : Nat → Option β} {a : α} (h : g = some a) (e : Both P (fun k => F k a) f) : Both P (fun k => g.bind (F k)) f := by subst h; exact e
theorem Both.bindER {α β : Type} {P : β → Prop} {g : Option α} {F : Nat → α → Option β} {f : Nat → Option β} {a : α} (h : g = some a) (e : Both P f (fun k => F k a)) : Both P f (fun k => g.bind (F k)) := by subst h; exact e
theorem Both.bind2 {α β : Type} {P : β → Prop} {Q : α → Prop} {g g' : Nat → Option α} {F F' : Nat → α → Option β} (h : Both Q g g') (e : ∀ a, Q a → Both P (fun k => F k a) (fun k => F' k a)) : Both P (fun k => (g k).bind (F k)) (fun k => (g' k).bind (F' k)) := by
  obtain ⟨a, x, y, c⟩ := h
  exact ((e a c).bindL x).bindR y
theorem Both.self {α : Type} {P : α → Prop} {g : Nat → Option α} {r : α} (h : Ev g r) (p : P r) : Both P g g := ⟨r, h, h, p⟩
theorem w1 (i : Nat) (h : i < 4611686018427387904) : wrap64 ((i : Int) + 1) = ((i + 1 : Nat) : Int) := by unfold wrap64; omega
theorem wrap_id (x : Int) (h0 : -9223372036854775808 ≤ x) (h1 : x ≤ 9223372036854775807) : wrap64 x = x := by unfold wrap64; omega
theorem rd_nat (l : List Int) (i : Nat) (h : i < l.length) : rd l (i : Int) = l[i] := by unfold rd; simp [List.getD, h]
theorem rdOf_nat {α : Type} (d : α) (l : List α) (i : Nat) (h : i < l.length) : rdOf d l (i : Int) = l[i] := by unfold rdOf; simp [List.getD, h]
theorem set_take {α : Type} (l : List α) (i : Nat) (v : α) (h : i < l.length) : (l.set i v).take (i + 1) = l.take i ++ [v] := by
  rw [List.take_succ_eq_append_getElem (by simpa using h), List.take_set_of_le (Nat.le_refl i)]; simp

def GoodK (v m : Int) : Bool := In v 0 65535 && In m 0 65535 && (Go.bits .and .i64 v m == 0)
def GoodS (lo hi : Int) : Bool := In lo 0 65535 && In hi 0 65535 && decide (lo ≤ hi)

def JoinK (a b c d : Int) : Int × Int := (Go.bits .andNot .i64 a (Go.bits .or .i64 (Go.bits .or .i64 b d) (Go.bits .xor .i64 a c)), Go.bits .or .i64 (Go.bits .or .i64 b d) (Go.bits .xor .i64 a c))

def JoinS (a b c d : Int) : Int × Int := (mn a c, mx b d)

def MeetS (a b c d : Int) : Int × Int × Bool := if mx a c > mn b d then (0, 0, false) else (mx a c, mn b d, true)

def LessS (a b c d : Int) : Int × Int × Int × Int × Bool := if a ≥ d then (0, 0, 0, 0, false) else (a, mn b (wrap64 (d - 1)), mx c (wrap64 (a + 1)), d, true)

theorem GoodK_nat {v m : Int} (h : GoodK v m = true) : ∃ a b : Nat, v = a ∧ m = b ∧ a < 65536 ∧ b < 65536 ∧ a &&& b = 0 := by
  unfold GoodK at h
  simp only [Bool.and_eq_true, beq_iff_eq] at h
  obtain ⟨⟨h1, h2⟩, h3⟩ := h
  obtain ⟨a, rfl, ha⟩ := nat_of h1
  obtain ⟨b, rfl, hb⟩ := nat_of h2
  rw [bits_and a b (by omega) (by omega)] at h3
  exact ⟨a, b, rfl, rfl, by omega, by omega, by omega⟩

theorem Arca_nat (l : List S71) (i : Nat) (h : i < l.length) : rd_T71 l (i : Int) = l[i] := by unfold rd_T71; simp [List.getD, h]
theorem Arcb_nat (l : List S68) (i : Nat) (h : i < l.length) : rd_T68 l (i : Int) = l[i] := by unfold rd_T68; simp [List.getD, h]

theorem toArc_eq (a0 a1 : Int) : laws_toArc.f a0 a1 = some (a0, a1) := rfl

def cvArc (x : S71) : S68 := ⟨x.f0, x.f1⟩
theorem toArcS_loop (l : List S71) (hl : l.length ≤ 1099511627776) : ∀ (d i : Nat) (acc : List S68), i + d = l.length → acc.length = l.length → acc.take i = (l.take i).map cvArc → Ev (fun k => laws_toArcS.l0 k l acc (i : Int)) (l.map cvArc)
  | 0, i, acc, hi, ha, ht => by
    refine Ev.step (fun k => laws_toArcS.l0.eq_2 ..) ?_
    refine Ev.neg (by omega) ?_
    rw [List.take_of_length_le (by omega), List.take_of_length_le (by omega)] at ht
    rw [ht]; exact Ev.now _
  | d + 1, i, acc, hi, ha, ht => by
    refine Ev.step (fun k => laws_toArcS.l0.eq_2 ..) ?_
    refine Ev.pos (by omega) (Ev.pos (by omega) (Ev.bindE (toArc_eq ..) (Ev.pos (by omega) ?_)))
    rw [w1 i (by omega), Int.toNat_natCast]
    refine toArcS_loop l hl d (i + 1) _ (by omega) (by simpa using ha) ?_
    rw [set_take _ _ _ (by omega), ht, List.take_succ_eq_append_getElem (show i < l.length by omega), List.map_append]
    rw [Arca_nat l i (by omega)]; rfl
theorem toArcS_ev (l : List S71) (hl : l.length ≤ 1048576) : Ev (fun k => laws_toArcS.f k l) (l.map cvArc) := by
  unfold laws_toArcS.f
  refine Ev.pos (by omega) (Ev.pos (by omega) ?_)
  exact toArcS_loop l (by omega) l.length 0 _ (by omega) (by simp) (by simp)

theorem szArcS_ok (l : List S71) (a : Int) (h : (l.length : Int) ≤ a) (ha : a ≤ 1048576) : laws_szArcS.f l a = some (a - l.length) := by
  unfold laws_szArcS.f; rw [wrap_id _ (by omega) (by omega), if_neg (by omega)]
theorem szArcS_big (l : List S71) (a : Int) (h : a < (l.length : Int)) (ha : a ≤ 1048576) (h0 : 0 ≤ a) (hl : l.length ≤ maxLen) : laws_szArcS.f l a = some (-1) := by
  unfold maxLen at hl; unfold laws_szArcS.f; rw [wrap_id _ (by omega) (by omega), if_pos (by omega)]

theorem eqArc_self (a0 a1 : Int) : laws_eqArc.f a0 a1 a0 a1 = some true := by unfold laws_eqArc.f; simp
theorem eqArcS_loop (l : List S68) (hl : l.length ≤ 1099511627776) : ∀ (d i : Nat), i + d = l.length → Ev (fun k => laws_eqArcS.l0 k l l (i : Int)) true
  | 0, i, hi => by
    refine Ev.step (fun k => laws_eqArcS.l0.eq_2 ..) ?_
    exact Ev.neg (by omega) (Ev.now _)
  | d + 1, i, hi => by
    refine Ev.step (fun k => laws_eqArcS.l0.eq_2 ..) ?_
    refine Ev.pos (by omega) (Ev.pos (by omega) (Ev.pos (by omega) (Ev.bindE (eqArc_self ..) (Ev.pos rfl ?_))))
    rw [w1 i (by omega)]
    exact eqArcS_loop l hl d (i + 1) (by omega)
theorem eqArcS_self (l : List S68) (hl : l.length ≤ 1099511627776) : Ev (fun k => laws_eqArcS.f k l l) true := by
  unfold laws_eqArcS.f
  exact Ev.pos rfl (eqArcS_loop l hl l.length 0 (by omega))

theorem Arcb_set (l : List S68) (i : Nat) (v : S68) (h : i < l.length) : rd_T68 (l.set i v) (i : Int) = v := by
  rw [Arcb_nat _ _ (by simpa using h)]; simp
def mkArc (m : Int) (n : Nat) : List S68 := (List.range n).map (fun j : Nat => (⟨m + 2 * j + 0, m + 2 * j + 1⟩ : S68))
theorem markArcS_loop (n : Nat) (m : Int) (hl : n ≤ 1099511627776) (hm : 0 ≤ m ∧ m ≤ 1099511627776) : ∀ (d i : Nat) (acc : List S68), i + d = n → acc.length = n → acc.take i = (mkArc m n).take i → Ev (fun k => laws_markArcS.l0 k acc (m + 2 * (i : Int)) (i : Int)) (m + 2 * (n : Int), mkArc m n)
  | 0, i, acc, hi, ha, ht => by
    refine Ev.step (fun k => laws_markArcS.l0.eq_2 ..) ?_
    refine Ev.neg (by omega) ?_
    rw [List.take_of_length_le (by omega), List.take_of_length_le (by simp [mkArc]; omega)] at ht
    obtain rfl : i = n := by omega
    rw [ht]; exact Ev.now _
  | d + 1, i, acc, hi, ha, ht => by
    refine Ev.step (fun k => laws_markArcS.l0.eq_2 ..) ?_
    have hi' : i < acc.length := by omega
    refine Ev.pos (by omega) (Ev.pos (by omega) (Ev.bindE rfl ?_))
    simp only [Int.toNat_natCast, Arcb_set _ _ _ hi', List.set_set, List.length_set, wrap64]
    have hb : ∀ x : Int, 0 ≤ x → x < 9223372036854775808 → (x + 9223372036854775808) % 18446744073709551616 - 9223372036854775808 = x := fun x _ _ => by omega
    have e0 : (m + 2 * (i : Int)) = m + 2 * (i : Int) + 0 := by omega
    rw [hb (m + 2 * (i : Int) + 1) (by omega) (by omega), hb (m + 2 * (i : Int) + 1 + 1) (by omega) (by omega), hb ((i : Int) + 1) (by omega) (by omega)]
    rw [show ((i : Int) + 1) = ((i + 1 : Nat) : Int) by omega, show (m + 2 * (i : Int) + 1 + 1) = m + 2 * ((i + 1 : Nat) : Int) by omega]
    skip
    refine markArcS_loop n m hl hm d (i + 1) _ (by omega) (by simpa using ha) ?_
    rw [set_take _ _ _ hi', ht, List.take_succ_eq_append_getElem (l := mkArc m n) (by simp [mkArc]; omega)]
    simp [mkArc, Int.add_assoc]
theorem markArcS_ev (l : List S68) (m : Int) (hl : l.length ≤ 1099511627776) (hm : 0 ≤ m ∧ m ≤ 1099511627776) : Ev (fun k => laws_markArcS.f k l m) (m + 2 * (l.length : Int), mkArc m l.length) := by
  unfold laws_markArcS.f
  have h := markArcS_loop l.length m hl hm l.length 0 l (by omega) rfl (by simp)
  simpa using h

theorem heldArcS_loop (n : Nat) (m : Int) (hl : n ≤ 1099511627776) (hm : 0 ≤ m ∧ m ≤ 1099511627776) : ∀ (d i : Nat), i + d = n → Ev (fun k => laws_heldArcS.l0 k (mkArc m n) (m + 2 * (i : Int)) (i : Int)) (m + 2 * (n : Int))
  | 0, i, hi => by
    have hlen : (mkArc m n).length = n := by simp [mkArc]
    refine Ev.step (fun k => laws_heldArcS.l0.eq_2 ..) ?_
    refine Ev.neg (by omega) ?_
    obtain rfl : i = n := by omega
    exact Ev.now _
  | d + 1, i, hi => by
    have hlen : (mkArc m n).length = n := by simp [mkArc]
    refine Ev.step (fun k => laws_heldArcS.l0.eq_2 ..) ?_
    have hg : rd_T68 (mkArc m n) (i : Int) = ⟨m + 2 * (i : Int) + 0, m + 2 * (i : Int) + 1⟩ := by rw [Arcb_nat _ _ (by omega)]; simp [mkArc]
    have hb : ∀ x : Int, 0 ≤ x → x < 9223372036854775808 → (x + 9223372036854775808) % 18446744073709551616 - 9223372036854775808 = x := fun x _ _ => by omega
    simp only [hg, wrap64]
    rw [hb (m + 2 * (i : Int) + 1) (by omega) (by omega), hb (m + 2 * (i : Int) + 1 + 1) (by omega) (by omega), hb ((i : Int) + 1) (by omega) (by omega)]
    refine Ev.pos (by omega) (Ev.pos (by omega) (Ev.pos (by omega) (Ev.pos (by omega) ?_)))
    rw [show ((i : Int) + 1) = ((i + 1 : Nat) : Int) by omega, show (m + 2 * (i : Int) + 1 + 1) = m + 2 * ((i + 1 : Nat) : Int) by omega]
    exact heldArcS_loop n m hl hm d (i + 1) (by omega)
theorem heldArcS_ev (n : Nat) (m : Int) (hl : n ≤ 1099511627776) (hm : 0 ≤ m ∧ m ≤ 1099511627776) : Ev (fun k => laws_heldArcS.f k (mkArc m n) m) (m + 2 * (n : Int)) := by
  unfold laws_heldArcS.f
  have h := heldArcS_loop n m hl hm n 0 (by omega)
  simpa using h

theorem impl_isSpots_eq (a : Int) : impl_isSpots.f a = some (In a 1 6) := by unfold impl_isSpots.f; rw [impl_in_eq]; rfl

def ArcsOk (n : Int) (l : List S68) (i : Nat) (r : Bool) : Prop := r = true → (1 ≤ n ∧ n ≤ 6) ∧ l.length ≤ 30 ∧ ∀ j (h : j < l.length), i ≤ j → (0 ≤ l[j].f0 ∧ l[j].f0 ≤ n - 1) ∧ (0 ≤ l[j].f1 ∧ l[j].f1 ≤ n - 1)
theorem goodArcs_loop (n : Int) (l : List S68) (hl : l.length ≤ 1099511627776) : ∀ (d i : Nat), i + d = l.length → Both (ArcsOk n l i) (fun k => spec_GoodArcs.l0 k n l l (l.length : Int) (i : Int)) (fun k => impl_GoodArcs.l0 k n l l (l.length : Int) (i : Int))
  | 0, i, hi => by
    refine Both.stepL (fun k => spec_GoodArcs.l0.eq_2 ..) (Both.stepR (fun k => impl_GoodArcs.l0.eq_2 ..) ?_)
    refine Both.negL (by omega) (Both.negR (by omega) (Both.bindEL (spec_l1In_eq ..) (Both.bindER (impl_isSpots_eq ..) ?_)))
    refine Both.ite (fun h => Both.now _ ?_) (fun h => Both.now _ ?_)
    · intro hr
      have := In_true.1 h
      have hr := of_decide_eq_true hr
      exact ⟨this, by omega, fun j hj hij => by omega⟩
    · intro hr; cases hr
  | d + 1, i, hi => by
    have ih := goodArcs_loop n l hl d (i + 1) (by omega)
    have hil : i < l.length := by omega
    refine Both.stepL (fun k => spec_GoodArcs.l0.eq_2 ..) (Both.stepR (fun k => impl_GoodArcs.l0.eq_2 ..) ?_)
    refine Both.posL (by omega) (Both.posL (by omega) (Both.posL (by omega) ?_))
    refine Both.posR (by omega) (Both.posR (by omega) (Both.posR (by omega) ?_))
    refine Both.bindEL (spec_l1In_eq ..) (Both.bindER (impl_in_eq ..) ?_)
    rw [Arcb_nat l i hil]
    have fin : ∀ r, ArcsOk n l (i + 1) r → In l[i].f0 0 (wrap64 (n - 1)) = true → In l[i].f1 0 (wrap64 (n - 1)) = true → ArcsOk n l i r := by
      intro r h h1 h2 hr
      obtain ⟨a, b, c⟩ := h hr
      rw [wrap_id (n - 1) (by omega) (by omega)] at h1 h2
      refine ⟨a, b, fun j hj hij => ?_⟩
      by_cases e : i = j
      · subst e; exact ⟨In_true.1 h1, In_true.1 h2⟩
      · exact c j hj (by omega)
    have bad : ∀ r, r = false → ArcsOk n l i r := fun r h h' => by rw [h] at h'; cases h'
    refine Both.ite (fun h1 => ?_) (fun h1 => ?_)
    · refine Both.bindEL (spec_l1In_eq ..) (Both.bindER (impl_in_eq ..) ?_)
      refine Both.stepL (fun k => spec_GoodArcs.j1.eq_2 ..) (Both.stepR (fun k => impl_GoodArcs.j1.eq_2 ..) ?_)
      refine Both.ite (fun h2 => Both.now _ (bad _ rfl)) (fun h2 => ?_)
      have h2 : In l[i].f1 0 (wrap64 (n - 1)) = true := by simpa using h2
      have ih := ih.mono (fun r hr => fin r hr h1 h2)
      by_cases e : i = 0
      · subst e
        refine Both.negL (by omega) (Both.posR (by unfold mx wrap64; simp) (Both.posR (by unfold mx wrap64; simp; omega) (Both.negR (by omega) ?_)))
        rw [w1 0 (by omega)]; exact ih
      · have em : wrap64 ((i : Int) - 1) = ((i - 1 : Nat) : Int) := by unfold wrap64; omega
        have em2 : mx 0 ((i - 1 : Nat) : Int) = ((i - 1 : Nat) : Int) := by unfold mx; split <;> omega
        rw [em, em2]
        refine Both.posL (by omega) (Both.posL (by omega) (Both.posL (by omega) ?_))
        refine Both.posR (by omega) (Both.posR (by omega) (Both.posR (by omega) ?_))
        rw [w1 i (by omega)]
        refine Both.ite (fun _ => Both.now _ (bad _ rfl)) (fun _ => Both.ite (fun _ => Both.ite (fun _ => Both.now _ (bad _ rfl)) (fun _ => ih)) (fun _ => ih))
    · refine Both.stepL (fun k => spec_GoodArcs.j1.eq_2 ..) (Both.stepR (fun k => impl_GoodArcs.j1.eq_2 ..) ?_)
      exact Both.posL rfl (Both.posR rfl (Both.now _ (bad _ rfl)))
theorem goodArcs_both (n : Int) (l : List S68) (hl : l.length ≤ 1099511627776) : Both (ArcsOk n l 0) (fun k => spec_GoodArcs.f k n l) (fun k => impl_GoodArcs.f k n l) := by
  unfold spec_GoodArcs.f impl_GoodArcs.f
  exact goodArcs_loop n l hl l.length 0 (by omega)

theorem layOut_inner (n : Int) (l : List S68) (a2 a b c z : Int) (P : (List S68 × Bool) → Prop) (hl : l.length ≤ 30) (m : Nat) (hm : m ≤ 1000)
    (next : ∀ acc : List S68, acc.length ≤ m + l.length → Both P (fun k => spec_LayOut.l0 k n l a2 acc (wrap64 (a + 1))) (fun k => impl_LayOut.l0 k n l acc z (wrap64 (b + 1)))) (hab : c = a) :
    ∀ (d i : Nat) (acc : List S68), i + d = l.length → acc.length ≤ m + i → Both P (fun k => spec_LayOut.l1 k n l a2 acc a l (l.length : Int) (i : Int)) (fun k => impl_LayOut.l1 k n l acc c z b l (l.length : Int) (i : Int))
  | 0, i, acc, hi, ha => by
    refine Both.stepL (fun k => spec_LayOut.l1.eq_2 ..) (Both.stepR (fun k => impl_LayOut.l1.eq_2 ..) ?_)
    exact Both.negL (by omega) (Both.negR (by omega) (next acc (by omega)))
  | d + 1, i, acc, hi, ha => by
    refine Both.stepL (fun k => spec_LayOut.l1.eq_2 ..) (Both.stepR (fun k => impl_LayOut.l1.eq_2 ..) ?_)
    rw [w1 i (by omega)]
    subst hab
    refine Both.posL (by omega) <| Both.posL (by omega) <| Both.posL (by omega) <| Both.posL (by omega) <| Both.posR (by omega) <| Both.posR (by omega) <| Both.posR (by omega) <| Both.posR (by omega) ?_
    exact layOut_inner n l a2 c b c z P hl m hm next rfl d (i + 1) _ (by omega) (by simp; omega)
theorem layOut_outer (n : Int) (l : List S68) (a2 : Int) (hl : l.length ≤ 30) (ha2 : 1 ≤ a2 ∧ a2 ≤ 8) :
    ∀ (d i : Nat) (acc : List S68), ((i : Int) + d = a2 - 1) → acc.length ≤ 30 * i → Both (fun r => r.1.length ≤ 1048576) (fun k => spec_LayOut.l0 k n l a2 acc (i : Int)) (fun k => impl_LayOut.l0 k n l acc (a2 - 1) (i : Int))
  | 0, i, acc, hi, ha => by
    refine Both.stepL (fun k => spec_LayOut.l0.eq_2 ..) (Both.stepR (fun k => impl_LayOut.l0.eq_2 ..) ?_)
    rw [wrap_id (a2 - 1) (by omega) (by omega)]
    exact Both.negL (by omega) <| Both.negR (by omega) <| Both.now _ (by simp only; omega)
  | d + 1, i, acc, hi, ha => by
    refine Both.stepL (fun k => spec_LayOut.l0.eq_2 ..) (Both.stepR (fun k => impl_LayOut.l0.eq_2 ..) ?_)
    rw [wrap_id (a2 - 1) (by omega) (by omega)]
    refine Both.posL (by omega) <| Both.posR (by omega) ?_
    refine layOut_inner n l a2 _ _ _ _ _ hl acc.length (by omega) (fun acc' hacc' => ?_) rfl l.length 0 _ (by omega) (by omega)
    rw [w1 i (by omega)]
    exact layOut_outer n l a2 hl ha2 d (i + 1) acc' (by omega) (by omega)
theorem layOut_both (n : Int) (l : List S68) (a2 : Int) (hl : l.length ≤ 1048576) : Both (fun r => r.1.length ≤ 1048576) (fun k => spec_LayOut.f k n l a2) (fun k => impl_LayOut.f k n l a2) := by
  unfold spec_LayOut.f impl_LayOut.f
  have bad : Both (fun r : List S68 × Bool => r.1.length ≤ 1048576) (fun k => spec_LayOut.j0 k n l a2 true) (fun k => impl_LayOut.j0 k n l a2 true) :=
    Both.stepL (fun k => spec_LayOut.j0.eq_2 ..) (Both.stepR (fun k => impl_LayOut.j0.eq_2 ..) (Both.posL rfl (Both.posR rfl (Both.now _ (by simp)))))
  refine (goodArcs_both n l (by omega)).bind2 (fun r hr => Both.ite (fun h => ?_) (fun _ => bad))
  obtain ⟨hn, h30, hok⟩ := hr h
  refine Both.bindEL (spec_l1In_eq ..) <| Both.bindER (impl_in_eq ..) ?_
  refine Both.stepL (fun k => spec_LayOut.j0.eq_2 ..) (Both.stepR (fun k => impl_LayOut.j0.eq_2 ..) ?_)
  refine Both.ite (fun _ => Both.now _ (by simp)) (fun h4 => ?_)
  have h4 : In a2 1 8 = true := by simpa using h4
  have h4 := In_true.1 h4
  rw [wrap_id (a2 - 1) (by omega) (by omega)]
  exact layOut_outer n l a2 h30 h4 (a2 - 1).toNat 0 [] (by omega) (by simp)

theorem FnExactLayOut : laws_FnExactLayOut.Pure := by
  intro n l a2 _ hl _
  refine Ev.rounds ?_
  unfold laws_FnExactLayOut.f
  by_cases hb : l.length ≤ 1048576
  · have hb' : (l.map cvArc).length ≤ 1048576 := by simpa using hb
    obtain ⟨⟨v, ok⟩, h1, h2, hv⟩ := layOut_both n (l.map cvArc) a2 hb'
    simp only at hv
    have ht := toArcS_ev l hb
    have hg := eqArcS_self (l.map cvArc) (by omega)
    have hm1 := markArcS_ev (l.map cvArc) 1 (by omega) (by omega)
    have hm2 := markArcS_ev v 1 (by omega) (by omega)
    have hh := heldArcS_ev v.length 1 (by omega) (by omega)
    have he := eqArcS_self v (by omega)
    refine Ev.bindE (szArcS_ok l _ (by omega) (by omega)) <| Ev.neg (by omega) <| Ev.bind ht <| Ev.bind h1 <| Ev.bind ht <| Ev.bind h2 <| Ev.bind he <| Ev.pos rfl ?_
    refine Ev.step (fun k => laws_FnExactLayOut.j0.eq_2 ..) (Ev.neg (by simp) <| Ev.bind ht <| Ev.bind hg <| Ev.pos rfl <| Ev.bind hm1 <| Ev.neg (by simp only; omega) <| Ev.bind he <| Ev.pos rfl ?_)
    refine Ev.step (fun k => laws_FnExactLayOut.j1.eq_2 ..) (Ev.neg (by simp) <| Ev.bind hm2 <| Ev.bind hh <| Ev.neg (by omega) <| Ev.pos rfl <| Ev.bind ht <| Ev.bind h2 <| Ev.bind he <| Ev.pos rfl ?_)
    exact Ev.step (fun k => laws_FnExactLayOut.j2.eq_2 ..) (Ev.neg (by simp) <| Ev.bind hh <| Ev.neg (by omega) <| Ev.pos rfl (Ev.now _))
  · exact Ev.bindE (szArcS_big l _ (by omega) (by omega) (by omega) hl.1) (Ev.pos (by omega) (Ev.now _))

end Go.Proofs.Ytalikhegkfmdhaa.Pure
