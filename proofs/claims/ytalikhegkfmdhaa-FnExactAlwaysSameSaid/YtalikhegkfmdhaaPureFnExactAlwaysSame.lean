/- Proved here: the pure statement of the law FnExactAlwaysSame: what the printed functions compute answers true. Conditions: the statement's own bounds. -/
import Derived.Test.YtalikhegkfmdhaaPHAx1
import Derived.Test.YtalikhegkfmdhaaPHAx2
import Derived.Test.YtalikhegkfmdhaaPHAx3
import Derived.Test.YtalikhegkfmdhaaPHAx4
import Derived.Test.YtalikhegkfmdhaaPHAx5
import Derived.Test.YtalikhegkfmdhaaPHAx6
import Derived.Test.YtalikhegkfmdhaaPHAx7
namespace Go.Proofs.Ytalikhegkfmdhaa.Pure
open Go Go.RowKit Go.Proofs.Ytalikhegkfmdhaa.PHA Go.Proofs.YtalikhegkfmdhaaW.PrintWords Go.Proofs.YtalikhegkfmdhaaW.PrintLast Go.Proofs.YtalikhegkfmdhaaW.PrintMore
set_option linter.unusedVariables false
set_option linter.unusedSimpArgs false

/-- A number lies between two. -/
def In (a lo hi : Int) : Bool := decide (lo ≤ a) && decide (a ≤ hi)
theorem In_true {a lo hi : Int} : In a lo hi = true ↔ lo ≤ a ∧ a ≤ hi := by simp [In]
theorem In_false {a lo hi : Int} : In a lo hi = false ↔ ¬ (lo ≤ a ∧ a ≤ hi) := by rw [← In_true]; simp
theorem In_ite {a lo hi : Int} : (if a ≥ lo then some (decide (a ≤ hi)) else some false) = some (In a lo hi) := by
  unfold In; by_cases h : lo ≤ a <;> simp [h]
theorem ite_some {α : Type} {c : Prop} [Decidable c] (a b : α) : (if c then some a else some b) = some (if c then a else b) := by split <;> rfl
theorem ne_self_bool (b : Bool) : ((b != b) = true) = False := by simp

theorem spec_l1In_eq (a b c : Int) : spec_l1In.f a b c = some (In a b c) := by unfold spec_l1In.f; exact In_ite

theorem impl_in_eq (a b c : Int) : impl_in.f a b c = some (In a b c) := by unfold impl_in.f; exact In_ite

/-- The bits of a number that another one has not. -/
def andn (a b : Nat) : Nat := a ^^^ (a &&& b)
theorem testBit_andn (a b i : Nat) : (andn a b).testBit i = (a.testBit i && !b.testBit i) := by
  unfold andn; rw [Nat.testBit_xor, Nat.testBit_and]; cases a.testBit i <;> cases b.testBit i <;> rfl
theorem andn_le (a b : Nat) : andn a b ≤ a := by
  have h : andn a b &&& a = andn a b := by
    apply Nat.eq_of_testBit_eq; intro i; rw [Nat.testBit_and, testBit_andn]; cases a.testBit i <;> cases b.testBit i <;> rfl
  rw [← h]; exact Nat.and_le_right
theorem wrap_i64_nat (n : Nat) (h : n < 9223372036854775808) : IntKind.i64.wrap (n : Int) = n := by
  rw [IntKind.wrap_i64]; omega
theorem ofInt_nat (n : Nat) : BitVec.ofInt 64 (n : Int) = BitVec.ofNat 64 n := BitVec.ofInt_natCast 64 n
theorem bits_and (a b : Nat) (ha : a < 9223372036854775808) (hb : b < 9223372036854775808) : Go.bits .and .i64 a b = ((a &&& b : Nat) : Int) := by
  show IntKind.i64.wrap (((BitVec.ofInt 64 (a : Int)) &&& (BitVec.ofInt 64 (b : Int))).toNat : Int) = _
  rw [ofInt_nat, ofInt_nat, BitVec.toNat_and, BitVec.toNat_ofNat, BitVec.toNat_ofNat, Nat.mod_eq_of_lt (by omega), Nat.mod_eq_of_lt (by omega)]
  exact wrap_i64_nat _ (Nat.lt_of_le_of_lt Nat.and_le_left ha)
theorem or_lt63 {a b : Nat} (ha : a < 9223372036854775808) (hb : b < 9223372036854775808) : a ||| b < 9223372036854775808 := Nat.or_lt_two_pow (n := 63) ha hb
theorem xor_lt63 {a b : Nat} (ha : a < 9223372036854775808) (hb : b < 9223372036854775808) : a ^^^ b < 9223372036854775808 := Nat.xor_lt_two_pow (n := 63) ha hb
theorem bits_or (a b : Nat) (ha : a < 9223372036854775808) (hb : b < 9223372036854775808) : Go.bits .or .i64 a b = ((a ||| b : Nat) : Int) := by
  show IntKind.i64.wrap (((BitVec.ofInt 64 (a : Int)) ||| (BitVec.ofInt 64 (b : Int))).toNat : Int) = _
  rw [ofInt_nat, ofInt_nat, BitVec.toNat_or, BitVec.toNat_ofNat, BitVec.toNat_ofNat, Nat.mod_eq_of_lt (by omega), Nat.mod_eq_of_lt (by omega)]
  exact wrap_i64_nat _ (or_lt63 ha hb)
theorem bits_xor (a b : Nat) (ha : a < 9223372036854775808) (hb : b < 9223372036854775808) : Go.bits .xor .i64 a b = ((a ^^^ b : Nat) : Int) := by
  show IntKind.i64.wrap (((BitVec.ofInt 64 (a : Int)) ^^^ (BitVec.ofInt 64 (b : Int))).toNat : Int) = _
  rw [ofInt_nat, ofInt_nat, BitVec.toNat_xor, BitVec.toNat_ofNat, BitVec.toNat_ofNat, Nat.mod_eq_of_lt (by omega), Nat.mod_eq_of_lt (by omega)]
  exact wrap_i64_nat _ (xor_lt63 ha hb)
theorem bits_andNot (a b : Nat) (ha : a < 9223372036854775808) (hb : b < 9223372036854775808) : Go.bits .andNot .i64 a b = ((andn a b : Nat) : Int) := by
  show IntKind.i64.wrap (((BitVec.ofInt 64 (a : Int)) &&& ~~~ (BitVec.ofInt 64 (b : Int))).toNat : Int) = _
  rw [ofInt_nat, ofInt_nat]
  have h : (BitVec.ofNat 64 a &&& ~~~ BitVec.ofNat 64 b).toNat = andn a b := by
    apply Nat.eq_of_testBit_eq; intro i
    rw [testBit_andn]
    by_cases hi : i < 64
    · rw [BitVec.testBit_toNat, BitVec.getLsbD_and, BitVec.getLsbD_not, BitVec.getLsbD_ofNat, BitVec.getLsbD_ofNat]
      simp [hi]
    · have h1 : a.testBit i = false := Nat.testBit_lt_two_pow (Nat.lt_of_lt_of_le ha (by have := Nat.pow_le_pow_right (show 0 < 2 by decide) (show 63 ≤ i by omega); omega))
      rw [h1, BitVec.testBit_toNat, BitVec.getLsbD_of_ge _ _ (by omega)]; rfl
  rw [h]
  exact wrap_i64_nat _ (Nat.lt_of_le_of_lt (andn_le a b) ha)
theorem and_zero_bit {a b : Nat} (h : a &&& b = 0) (i : Nat) : (a.testBit i && b.testBit i) = false := by rw [← Nat.testBit_and, h]; simp
theorem nat_of {x hi : Int} (h : In x 0 hi = true) : ∃ n : Nat, x = (n : Int) ∧ (n : Int) ≤ hi := by
  have h := In_true.1 h
  exact ⟨x.toNat, by omega, by omega⟩

theorem word_or {a b : Nat} (ha : a < 65536) (hb : b < 65536) : a ||| b < 65536 := Nat.or_lt_two_pow (n := 16) ha hb
theorem word_xor {a b : Nat} (ha : a < 65536) (hb : b < 65536) : a ^^^ b < 65536 := Nat.xor_lt_two_pow (n := 16) ha hb
theorem word_and {a b : Nat} (ha : a < 65536) : a &&& b < 65536 := Nat.lt_of_le_of_lt Nat.and_le_left ha
theorem word_andn {a b : Nat} (ha : a < 65536) : andn a b < 65536 := Nat.lt_of_le_of_lt (andn_le a b) ha

theorem Ev.pos {α : Type} {c : Prop} [Decidable c] {A B : Nat → Option α} {r : α} (h : c) (e : Ev A r) : Ev (fun k => if c then A k else B k) r := Ev.congr (fun _ => if_pos h) e
theorem Ev.neg {α : Type} {c : Prop} [Decidable c] {A B : Nat → Option α} {r : α} (h : ¬ c) (e : Ev B r) : Ev (fun k => if c then A k else B k) r := Ev.congr (fun _ => if_neg h) e
theorem Ev.bindE {α β : Type} {g : Option α} {f : Nat → α → Option β} {a : α} {r : β} (h : g = some a) (k : Ev (fun n => f n a) r) : Ev (fun n => g.bind (f n)) r := by subst h; exact k
theorem Ev.at_ {α : Type} {g : Nat → Option α} {r r' : α} (h : Ev g r) (e : r = r') : Ev g r' := e ▸ h
theorem Ev.one {α : Type} {g : Nat → Option α} {r r' : α} (h : Ev g r) (h' : Ev g r') : r = r' := by
  obtain ⟨K, h⟩ := h; obtain ⟨K', h'⟩ := h'
  have a := h (max K K') (by omega); have b := h' (max K K') (by omega)
  rw [a] at b; exact Option.some.inj b
/-- Two texts come to one answer, of which P holds. -/
def Both {α : Type} (P : α → Prop) (g f : Nat → Option α) : Prop := ∃ r, Ev g r ∧ Ev f r ∧ P r
theorem Both.now {α : Type} {P : α → Prop} (r : α) (h : P r) : Both P (fun _ => some r) (fun _ => some r) := ⟨r, Ev.now r, Ev.now r, h⟩
theorem Both.now2 {α : Type} {P : α → Prop} (r r' : α) (e : r = r') (h : P r) : Both P (fun _ => some r) (fun _ => some r') := ⟨r, Ev.now r, e ▸ Ev.now r, h⟩
theorem Both.mono {α : Type} {P Q : α → Prop} {g f : Nat → Option α} (h : Both P g f) (hq : ∀ r, P r → Q r) : Both Q g f := by obtain ⟨r, a, b, c⟩ := h; exact ⟨r, a, b, hq r c⟩
theorem Both.congrL {α : Type} {P : α → Prop} {g g' f : Nat → Option α} (e : ∀ k, g k = g' k) (h : Both P g' f) : Both P g f := by obtain ⟨r, a, b, c⟩ := h; exact ⟨r, a.congr e, b, c⟩
theorem Both.congrR {α : Type} {P : α → Prop} {g f f' : Nat → Option α} (e : ∀ k, f k = f' k) (h : Both P g f') : Both P g f := by obtain ⟨r, a, b, c⟩ := h; exact ⟨r, a, b.congr e, c⟩
theorem Both.posL {α : Type} {P : α → Prop} {c : Prop} [Decidable c] {A B f : Nat → Option α} (h : c) (e : Both P A f) : Both P (fun k => if c then A k else B k) f := e.congrL (fun _ => if_pos h)
theorem Both.negL {α : Type} {P : α → Prop} {c : Prop} [Decidable c] {A B f : Nat → Option α} (h : ¬ c) (e : Both P B f) : Both P (fun k => if c then A k else B k) f := e.congrL (fun _ => if_neg h)
theorem Both.posR {α : Type} {P : α → Prop} {c : Prop} [Decidable c] {A B f : Nat → Option α} (h : c) (e : Both P f A) : Both P f (fun k => if c then A k else B k) := e.congrR (fun _ => if_pos h)
theorem Both.negR {α : Type} {P : α → Prop} {c : Prop} [Decidable c] {A B f : Nat → Option α} (h : ¬ c) (e : Both P f B) : Both P f (fun k => if c then A k else B k) := e.congrR (fun _ => if_neg h)
theorem Both.ite {α : Type} {P : α → Prop} {c : Prop} [Decidable c] {A B A' B' : Nat → Option α} (h1 : c → Both P A A') (h2 : ¬ c → Both P B B') : Both P (fun k => if c then A k else B k) (fun k => if c then A' k else B' k) := by
  by_cases h : c
  · exact ((h1 h).posL h).posR h
  · exact ((h2 h).negL h).negR h
theorem Both.stepL {α : Type} {P : α → Prop} {g g' f : Nat → Option α} (e : ∀ k, g (k + 1) = g' k) (h : Both P g' f) : Both P g f := by obtain ⟨r, a, b, c⟩ := h; exact ⟨r, a.step e, b, c⟩
theorem Both.stepR {α : Type} {P : α → Prop} {g f f' : Nat → Option α} (e : ∀ k, f (k + 1) = f' k) (h : Both P g f') : Both P g f := by obtain ⟨r, a, b, c⟩ := h; exact ⟨r, a, b.step e, c⟩
theorem Both.bindL {α β : Type} {P : β → Prop} {g : Nat → Option α} {F : Nat → α → Option β} {f : Nat → Option β} {a : α} (h : Ev g a) (e : Both P (fun k => F k a) f) : Both P (fun k => (g k).bind (F k)) f := by obtain ⟨r, x, y, c⟩ := e; exact ⟨r, Ev.bind h x, y, c⟩
theorem Both.bindR {α β : Type} {P : β → Prop} {g : Nat → Option α} {F : Nat → α → Option β} {f : Nat → Option β} {a : α} (h : Ev g a) (e : Both P f (fun k => F k a)) : Both P f (fun k => (g k).bind (F k)) := by obtain ⟨r, x, y, c⟩ := e; exact ⟨r, x, Ev.bind h y, c⟩
theorem Both.bindEL {α β : Type} {P : β → Prop} {g : Option α} {F : Nat → α → Option β} {f : Nat → Option β} {a : α} (h : g = some a) (e : Both P (fun k => F k a) f) : Both P (fun k => g.bind (F k)) f := by subst h; exact e
theorem Both.bindER {α β : Type} {P : β → Prop} {g : Option α} {F : Nat → α → Option β} {f : Nat → Option β} {a : α} (h : g = some a) (e : Both P f (fun k => F k a)) : Both P f (fun k => g.bind (F k)) := by subst h; exact e
theorem Both.bind2 {α β : Type} {P : β → Prop} {Q : α → Prop} {g g' : Nat → Option α} {F F' : Nat → α → Option β} (h : Both Q g g') (e : ∀ a, Q a → Both P (fun k => F k a) (fun k => F' k a)) : Both P (fun k => (g k).bind (F k)) (fun k => (g' k).bind (F' k)) := by
  obtain ⟨a, x, y, c⟩ := h
  exact ((e a c).bindL x).bindR y
theorem Both.self {α : Type} {P : α → Prop} {g : Nat → Option α} {r : α} (h : Ev g r) (p : P r) : Both P g g := ⟨r, h, h, p⟩
theorem w1 (i : Nat) (h : i < 4611686018427387904) : wrap64 ((i : Int) + 1) = ((i + 1 : Nat) : Int) := by unfold wrap64; omega
theorem wrap_id (x : Int) (h0 : -9223372036854775808 ≤ x) (h1 : x ≤ 9223372036854775807) : wrap64 x = x := by unfold wrap64; omega
theorem rd_nat (l : List Int) (i : Nat) (h : i < l.length) : rd l (i : Int) = l[i] := by unfold rd; simp [List.getD, h]
theorem rdOf_nat {α : Type} (d : α) (l : List α) (i : Nat) (h : i < l.length) : rdOf d l (i : Int) = l[i] := by unfold rdOf; simp [List.getD, h]
theorem set_take {α : Type} (l : List α) (i : Nat) (v : α) (h : i < l.length) : (l.set i v).take (i + 1) = l.take i ++ [v] := by
  rw [List.take_succ_eq_append_getElem (by simpa using h), List.take_set_of_le (Nat.le_refl i)]; simp

theorem u64_nat (i : Nat) (h : i < 9223372036854775808) : IntKind.u64.wrap (i : Int) = (i : Int) := by
  have : IntKind.u64.wrap (i : Int) = (i : Int) % 18446744073709551616 := by simp [IntKind.wrap, IntKind.bits, IntKind.signed]
  rw [this]; omega
theorem shl_one (n : Nat) (h : n ≤ 60) : shl .i64 1 (n : Int) = ((2 ^ n : Nat) : Int) := by
  have hb : IntKind.i64.bits = 64 := rfl
  unfold shl
  rw [Int.toNat_natCast, hb, Nat.min_eq_left (by omega), Int.one_mul]
  have h1 : 2 ^ n ≤ 2 ^ 60 := Nat.pow_le_pow_right (by decide) h
  have h2 : ((2 : Int) ^ n) = ((2 ^ n : Nat) : Int) := by rw [Int.natCast_pow]; rfl
  rw [h2]; exact wrap_i64_nat _ (by omega)
/-- Bit i of a number, as the programs read it. -/
def bitM (x : Int) (i : Nat) : Bool := Go.bits .and .i64 (shr .i64 x (i : Int)) 1 == 1
def modelM (n : Nat) (x : Int) : List Bool := (List.range n).map (fun i => bitM x i)
theorem modelM_len (n : Nat) (x : Int) : (modelM n x).length = n := by simp [modelM]

theorem spec_l4Model_loop (n : Nat) (hn : n ≤ 1048576) (x : Int) : ∀ (d i : Nat) (acc : List Bool), i + d = n → acc.length = n → acc.take i = (modelM n x).take i → Ev (fun k => spec_l4Model.l0 k x acc (n : Int) (i : Int)) (modelM n x)
  | 0, i, acc, hi, ha, ht => by
    refine Ev.step (fun k => spec_l4Model.l0.eq_2 ..) (Ev.neg (by omega) ?_)
    rw [List.take_of_length_le (by omega), List.take_of_length_le (by rw [modelM_len]; omega)] at ht
    rw [ht]; exact Ev.now _
  | d + 1, i, acc, hi, ha, ht => by
    refine Ev.step (fun k => spec_l4Model.l0.eq_2 ..) ?_
    rw [u64_nat i (by omega), w1 i (by omega), Int.toNat_natCast]
    refine Ev.pos (by omega) <| Ev.pos (by omega) <| Ev.pos (by omega) <| Ev.pos (by omega) ?_
    refine spec_l4Model_loop n hn x d (i + 1) _ (by omega) (by simpa using ha) ?_
    rw [set_take _ _ _ (by omega), ht, List.take_succ_eq_append_getElem (l := modelM n x) (by rw [modelM_len]; omega)]
    simp [modelM, bitM]
theorem spec_l4Model_ev (n : Nat) (hn : n ≤ 1048576) (x : Int) : Ev (fun k => spec_l4Model.f k (n : Int) x) (modelM n x) := by
  unfold spec_l4Model.f
  refine Ev.pos (by omega) <| Ev.pos (by omega) <| Ev.bindE rfl ?_
  rw [Int.toNat_natCast, List.length_replicate]
  exact spec_l4Model_loop n hn x n 0 _ (by omega) (by simp) (by simp)

theorem impl_model_loop (n : Nat) (hn : n ≤ 1048576) (x : Int) : ∀ (d i : Nat) (acc : List Bool), i + d = n → acc.length = n → acc.take i = (modelM n x).take i → Ev (fun k => impl_model.l0 k x acc (n : Int) (i : Int)) (modelM n x)
  | 0, i, acc, hi, ha, ht => by
    refine Ev.step (fun k => impl_model.l0.eq_2 ..) (Ev.neg (by omega) ?_)
    rw [List.take_of_length_le (by omega), List.take_of_length_le (by rw [modelM_len]; omega)] at ht
    rw [ht]; exact Ev.now _
  | d + 1, i, acc, hi, ha, ht => by
    refine Ev.step (fun k => impl_model.l0.eq_2 ..) ?_
    rw [w1 i (by omega), Int.toNat_natCast]
    refine Ev.pos (by omega) <| Ev.pos (by omega) <| Ev.pos (by omega) ?_
    refine impl_model_loop n hn x d (i + 1) _ (by omega) (by simpa using ha) ?_
    rw [set_take _ _ _ (by omega), ht, List.take_succ_eq_append_getElem (l := modelM n x) (by rw [modelM_len]; omega)]
    simp [modelM, bitM]
theorem impl_model_ev (n : Nat) (hn : n ≤ 1048576) (x : Int) : Ev (fun k => impl_model.f k (n : Int) x) (modelM n x) := by
  unfold impl_model.f
  refine Ev.pos (by omega) <| Ev.pos (by omega) <| Ev.bindE rfl ?_
  rw [Int.toNat_natCast, List.length_replicate]
  exact impl_model_loop n hn x n 0 _ (by omega) (by simp) (by simp)

def GoodK (v m : Int) : Bool := In v 0 65535 && In m 0 65535 && (Go.bits .and .i64 v m == 0)
def GoodS (lo hi : Int) : Bool := In lo 0 65535 && In hi 0 65535 && decide (lo ≤ hi)

def JoinK (a b c d : Int) : Int × Int := (Go.bits .andNot .i64 a (Go.bits .or .i64 (Go.bits .or .i64 b d) (Go.bits .xor .i64 a c)), Go.bits .or .i64 (Go.bits .or .i64 b d) (Go.bits .xor .i64 a c))

def JoinS (a b c d : Int) : Int × Int := (mn a c, mx b d)

def MeetS (a b c d : Int) : Int × Int × Bool := if mx a c > mn b d then (0, 0, false) else (mx a c, mn b d, true)

def LessS (a b c d : Int) : Int × Int × Int × Int × Bool := if a ≥ d then (0, 0, 0, 0, false) else (a, mn b (wrap64 (d - 1)), mx c (wrap64 (a + 1)), d, true)

theorem GoodK_nat {v m : Int} (h : GoodK v m = true) : ∃ a b : Nat, v = a ∧ m = b ∧ a < 65536 ∧ b < 65536 ∧ a &&& b = 0 := by
  unfold GoodK at h
  simp only [Bool.and_eq_true, beq_iff_eq] at h
  obtain ⟨⟨h1, h2⟩, h3⟩ := h
  obtain ⟨a, rfl, ha⟩ := nat_of h1
  obtain ⟨b, rfl, hb⟩ := nat_of h2
  rw [bits_and a b (by omega) (by omega)] at h3
  exact ⟨a, b, rfl, rfl, by omega, by omega, by omega⟩

theorem Gatea_nat (l : List S81) (i : Nat) (h : i < l.length) : rd_T81 l (i : Int) = l[i] := by unfold rd_T81; simp [List.getD, h]
theorem Gateb_nat (l : List S79) (i : Nat) (h : i < l.length) : rd_T79 l (i : Int) = l[i] := by unfold rd_T79; simp [List.getD, h]

theorem toGate_eq (a0 a1 a2 : Int) : laws_toGate.f a0 a1 a2 = some (a0, a1, a2) := rfl

def cvGate (x : S81) : S79 := ⟨x.f0, x.f1, x.f2⟩
theorem toGateS_loop (l : List S81) (hl : l.length ≤ 1099511627776) : ∀ (d i : Nat) (acc : List S79), i + d = l.length → acc.length = l.length → acc.take i = (l.take i).map cvGate → Ev (fun k => laws_toGateS.l0 k l acc (i : Int)) (l.map cvGate)
  | 0, i, acc, hi, ha, ht => by
    refine Ev.step (fun k => laws_toGateS.l0.eq_2 ..) ?_
    refine Ev.neg (by omega) ?_
    rw [List.take_of_length_le (by omega), List.take_of_length_le (by omega)] at ht
    rw [ht]; exact Ev.now _
  | d + 1, i, acc, hi, ha, ht => by
    refine Ev.step (fun k => laws_toGateS.l0.eq_2 ..) ?_
    refine Ev.pos (by omega) (Ev.pos (by omega) (Ev.bindE (toGate_eq ..) (Ev.pos (by omega) ?_)))
    rw [w1 i (by omega), Int.toNat_natCast]
    refine toGateS_loop l hl d (i + 1) _ (by omega) (by simpa using ha) ?_
    rw [set_take _ _ _ (by omega), ht, List.take_succ_eq_append_getElem (show i < l.length by omega), List.map_append]
    rw [Gatea_nat l i (by omega)]; rfl
theorem toGateS_ev (l : List S81) (hl : l.length ≤ 1048576) : Ev (fun k => laws_toGateS.f k l) (l.map cvGate) := by
  unfold laws_toGateS.f
  refine Ev.pos (by omega) (Ev.pos (by omega) ?_)
  exact toGateS_loop l (by omega) l.length 0 _ (by omega) (by simp) (by simp)

theorem szGateS_ok (l : List S81) (a : Int) (h : (l.length : Int) ≤ a) (ha : a ≤ 1048576) : laws_szGateS.f l a = some (a - l.length) := by
  unfold laws_szGateS.f; rw [wrap_id _ (by omega) (by omega), if_neg (by omega)]
theorem szGateS_big (l : List S81) (a : Int) (h : a < (l.length : Int)) (ha : a ≤ 1048576) (h0 : 0 ≤ a) (hl : l.length ≤ maxLen) : laws_szGateS.f l a = some (-1) := by
  unfold maxLen at hl; unfold laws_szGateS.f; rw [wrap_id _ (by omega) (by omega), if_pos (by omega)]

theorem eqGate_self (a0 a1 a2 : Int) : laws_eqGate.f a0 a1 a2 a0 a1 a2 = some true := by unfold laws_eqGate.f; simp
theorem eqGateS_loop (l : List S79) (hl : l.length ≤ 1099511627776) : ∀ (d i : Nat), i + d = l.length → Ev (fun k => laws_eqGateS.l0 k l l (i : Int)) true
  | 0, i, hi => by
    refine Ev.step (fun k => laws_eqGateS.l0.eq_2 ..) ?_
    exact Ev.neg (by omega) (Ev.now _)
  | d + 1, i, hi => by
    refine Ev.step (fun k => laws_eqGateS.l0.eq_2 ..) ?_
    refine Ev.pos (by omega) (Ev.pos (by omega) (Ev.pos (by omega) (Ev.bindE (eqGate_self ..) (Ev.pos rfl ?_))))
    rw [w1 i (by omega)]
    exact eqGateS_loop l hl d (i + 1) (by omega)
theorem eqGateS_self (l : List S79) (hl : l.length ≤ 1099511627776) : Ev (fun k => laws_eqGateS.f k l l) true := by
  unfold laws_eqGateS.f
  exact Ev.pos rfl (eqGateS_loop l hl l.length 0 (by omega))

/-- A gate's own shape, at a place. -/
def gok (g : S79) (j : Nat) : Prop := (g.f0 = 1 ∧ g.f1 = 0 ∧ g.f2 = 0) ∨ (g.f0 = 2 ∧ (0 ≤ g.f1 ∧ g.f1 < j) ∧ g.f2 = 0) ∨ ((g.f0 = 3 ∨ g.f0 = 4 ∨ g.f0 = 5) ∧ (0 ≤ g.f1 ∧ g.f1 < j) ∧ (0 ≤ g.f2 ∧ g.f2 < j))
def GatesOk (l : List S79) (i : Nat) (r : Bool) : Prop := r = true → (1 ≤ l.length ∧ l.length ≤ 12) ∧ ∀ j (h : j < l.length), i ≤ j → gok l[j] j

theorem goodGates_loop (l : List S79) (hl : l.length ≤ 1099511627776) : ∀ (d i : Nat), i + d = l.length → Both (GatesOk l i) (fun k => spec_GoodGates.l0 k l l (l.length : Int) (i : Int)) (fun k => impl_GoodGates.l0 k l l (l.length : Int) (i : Int))
  | 0, i, hi => by
    refine Both.stepL (fun k => spec_GoodGates.l0.eq_2 ..) (Both.stepR (fun k => impl_GoodGates.l0.eq_2 ..) ?_)
    refine Both.negL (by omega) (Both.negR (by omega) (Both.bindEL (spec_l1In_eq ..) (Both.bindER (impl_in_eq ..) (Both.now _ ?_))))
    intro hr
    have := In_true.1 hr
    exact ⟨by omega, fun j hj hij => by omega⟩
  | d + 1, i, hi => by
    have ih := goodGates_loop l hl d (i + 1) (by omega)
    have hil : i < l.length := by omega
    refine Both.stepL (fun k => spec_GoodGates.l0.eq_2 ..) (Both.stepR (fun k => impl_GoodGates.l0.eq_2 ..) ?_)
    refine Both.posL (by omega) (Both.posL (by omega) (Both.posL (by omega) ?_))
    refine Both.posR (by omega) (Both.posR (by omega) (Both.posR (by omega) ?_))
    refine Both.bindEL (spec_l1In_eq ..) (Both.bindEL (spec_l1In_eq ..) ?_)
    rw [Gateb_nat l i hil, w1 i (by omega)]
    have em : wrap64 ((i : Int) - 1) = (i : Int) - 1 := wrap_id _ (by omega) (by omega)
    rw [em]
    have fin : ∀ r, GatesOk l (i + 1) r → gok l[i] i → GatesOk l i r := by
      intro r h h1 hr
      obtain ⟨a, c⟩ := h hr
      refine ⟨a, fun j hj hij => ?_⟩
      by_cases e : i = j
      · subst e; exact h1
      · exact c j hj (by omega)
    have bad : Both (GatesOk l i) (fun _ => some false) (fun _ => some false) := Both.now _ (fun h => by cases h)
    have two : (l[i].f0 = 3 ∨ l[i].f0 = 4 ∨ l[i].f0 = 5) → Both (GatesOk l i)
        (fun k => spec_GoodGates.j1 k l (In l[i].f1 0 ((i : Int) - 1)) (In l[i].f2 0 ((i : Int) - 1)) l (l.length : Int) (i : Int) true)
        (fun k => impl_GoodGates.j1 k l (i : Int) false l (l.length : Int) (i : Int) true l[i].f0 l[i].f1 l[i].f2) := by
      intro hk
      refine Both.stepL (fun k => spec_GoodGates.j1.eq_2 ..) (Both.stepR (fun k => impl_GoodGates.j1.eq_2 ..) ?_)
      rw [em, w1 i (by omega)]
      refine Both.posL rfl (Both.posR rfl (Both.bindER (impl_in_eq ..) (Both.ite (fun h1 => Both.bindER (impl_in_eq ..) (Both.ite (fun h2 => ih.mono (fun r hr => fin r hr ?_)) (fun _ => bad))) (fun _ => bad))))
      have a := In_true.1 h1; have b := In_true.1 h2
      exact .inr (.inr ⟨hk, by omega, by omega⟩)
    refine Both.ite (fun h1 => Both.ite (fun h2 => Both.ite (fun h3 => ih.mono (fun r hr => fin r hr (.inl ⟨h1, h2, h3⟩))) (fun _ => bad)) (fun _ => bad)) (fun n1 => ?_)
    refine Both.ite (fun h1 => Both.bindER (impl_in_eq ..) (Both.ite (fun h2 => Both.ite (fun h3 => ih.mono (fun r hr => fin r hr (.inr (.inl ⟨h1, by have := In_true.1 h2; omega, h3⟩)))) (fun _ => bad)) (fun _ => bad))) (fun n2 => ?_)
    refine Both.ite (fun h1 => ?_) (fun n3 => Both.ite (fun h1 => ?_) (fun n4 => ?_))
    · rw [show (l[i].f0 == 3) = true by simpa using h1]; exact two (.inl h1)
    · rw [show (l[i].f0 == 4) = true by simpa using h1]; exact two (.inr (.inl h1))
    · by_cases h1 : l[i].f0 = 5
      · rw [show (l[i].f0 == 5) = true by simpa using h1]; exact two (.inr (.inr h1))
      · rw [show (l[i].f0 == 5) = false by simpa using h1]
        refine Both.stepL (fun k => spec_GoodGates.j1.eq_2 ..) (Both.stepR (fun k => impl_GoodGates.j1.eq_2 ..) ?_)
        exact Both.negL (by simp) (Both.negR (by simp) (Both.negR (by simp) bad))
theorem goodGates_both (l : List S79) (hl : l.length ≤ 1099511627776) : Both (GatesOk l 0) (fun k => spec_GoodGates.f k l) (fun k => impl_GoodGates.f k l) := by
  unfold spec_GoodGates.f impl_GoodGates.f
  exact goodGates_loop l hl l.length 0 (by omega)

def inpsFrom : Nat → List S79 → List Int
  | _, [] => []
  | i, g :: gs => if g.f0 = 1 then (i : Int) :: inpsFrom (i + 1) gs else inpsFrom (i + 1) gs
def inps (l : List S79) : List Int := inpsFrom 0 l
theorem inpsFrom_len : ∀ (l : List S79) (i : Nat), (inpsFrom i l).length ≤ l.length
  | [], _ => by simp [inpsFrom]
  | g :: gs, i => by
    have := inpsFrom_len gs (i + 1)
    unfold inpsFrom; split <;> simp <;> omega
theorem inpsFrom_mem : ∀ (l : List S79) (i : Nat) (x : Int), x ∈ inpsFrom i l → (i : Int) ≤ x ∧ x < ((i + l.length : Nat) : Int)
  | [], _, _, h => by simp [inpsFrom] at h
  | g :: gs, i, x, h => by
    have ih := inpsFrom_mem gs (i + 1) x
    have hl : (g :: gs).length = gs.length + 1 := rfl
    unfold inpsFrom at h
    split at h
    · rcases List.mem_cons.1 h with h | h
      · omega
      · have := ih h; omega
    · have := ih h; omega
theorem inps_len (l : List S79) : (inps l).length ≤ l.length := inpsFrom_len l 0

theorem spec_l8Inputs_loop (l : List S79) (hl : l.length ≤ 1099511627776) : ∀ (d i : Nat) (acc : List Int), i + d = l.length → acc.length ≤ i → Ev (fun k => spec_l8Inputs.l0 k acc l (l.length : Int) (i : Int)) (acc ++ inpsFrom i (l.drop i))
  | 0, i, acc, hi, ha => by
    refine Ev.step (fun k => spec_l8Inputs.l0.eq_2 ..) (Ev.neg (by omega) ?_)
    rw [List.drop_eq_nil_of_le (by omega)]; simp only [inpsFrom, List.append_nil]; exact Ev.now _
  | d + 1, i, acc, hi, ha => by
    have hil : i < l.length := by omega
    refine Ev.step (fun k => spec_l8Inputs.l0.eq_2 ..) (Ev.pos (by omega) (Ev.pos (by omega) (Ev.pos (by omega) ?_)))
    rw [Gateb_nat l i hil, w1 i (by omega), List.drop_eq_getElem_cons hil]
    unfold inpsFrom
    by_cases h : l[i].f0 = 1
    · rw [if_pos h]
      refine Ev.pos h (Ev.pos (by omega) ?_)
      have := spec_l8Inputs_loop l hl d (i + 1) (acc ++ [(i : Int)]) (by omega) (by simp; omega)
      rw [List.append_assoc] at this; exact this
    · rw [if_neg h]
      exact Ev.neg h (spec_l8Inputs_loop l hl d (i + 1) acc (by omega) (by omega))
theorem spec_l8Inputs_ev (l : List S79) (hl : l.length ≤ 1099511627776) : Ev (fun k => spec_l8Inputs.f k l) (inps l) := by
  unfold spec_l8Inputs.f
  exact spec_l8Inputs_loop l hl l.length 0 [] (by omega) (by simp)

theorem impl_inputs_loop (l : List S79) (hl : l.length ≤ 1099511627776) : ∀ (d i : Nat) (acc : List Int), i + d = l.length → acc.length ≤ i → Ev (fun k => impl_inputs.l0 k acc l (l.length : Int) (i : Int)) (acc ++ inpsFrom i (l.drop i))
  | 0, i, acc, hi, ha => by
    refine Ev.step (fun k => impl_inputs.l0.eq_2 ..) (Ev.neg (by omega) ?_)
    rw [List.drop_eq_nil_of_le (by omega)]; simp only [inpsFrom, List.append_nil]; exact Ev.now _
  | d + 1, i, acc, hi, ha => by
    have hil : i < l.length := by omega
    refine Ev.step (fun k => impl_inputs.l0.eq_2 ..) (Ev.pos (by omega) (Ev.pos (by omega) (Ev.pos (by omega) ?_)))
    rw [Gateb_nat l i hil, w1 i (by omega), List.drop_eq_getElem_cons hil]
    unfold inpsFrom
    by_cases h : l[i].f0 = 1
    · rw [if_pos h]
      refine Ev.pos h (Ev.pos (by omega) ?_)
      have := impl_inputs_loop l hl d (i + 1) (acc ++ [(i : Int)]) (by omega) (by simp; omega)
      rw [List.append_assoc] at this; exact this
    · rw [if_neg h]
      exact Ev.neg h (impl_inputs_loop l hl d (i + 1) acc (by omega) (by omega))
theorem impl_inputs_ev (l : List S79) (hl : l.length ≤ 1099511627776) : Ev (fun k => impl_inputs.f k l) (inps l) := by
  unfold impl_inputs.f
  exact impl_inputs_loop l hl l.length 0 [] (by omega) (by simp)

/-- What a gate gives: the inputs still to come, the values so far. -/
def gval (g : S79) (ins acc : List Bool) : Bool :=
  if g.f0 = 1 then ins.getD 0 false
  else if g.f0 = 2 then !(acc.getD g.f1.toNat false)
  else if g.f0 = 3 then acc.getD g.f1.toNat false && acc.getD g.f2.toNat false
  else if g.f0 = 4 then acc.getD g.f1.toNat false || acc.getD g.f2.toNat false
  else acc.getD g.f1.toNat false != acc.getD g.f2.toNat false
def evalFrom : List S79 → List Bool → List Bool → List Bool
  | [], _, acc => acc
  | g :: gs, ins, acc => evalFrom gs (if g.f0 = 1 then ins.drop 1 else ins) (acc ++ [gval g ins acc])
def evalM (l : List S79) (ins : List Bool) : List Bool := evalFrom l ins []
theorem evalFrom_len : ∀ (l : List S79) (ins acc : List Bool), (evalFrom l ins acc).length = acc.length + l.length
  | [], ins, acc => by simp [evalFrom]
  | g :: gs, ins, acc => by unfold evalFrom; rw [evalFrom_len gs]; simp; omega
theorem evalM_len (l : List S79) (ins : List Bool) : (evalM l ins).length = l.length := by unfold evalM; rw [evalFrom_len]; simp
theorem rdOf_getD {α : Type} (d : α) (l : List α) (x : Int) : rdOf d l x = l.getD x.toNat d := rfl

theorem spec_l8Eval_loop (l : List S79) (ins : List Bool) (hl : l.length ≤ 1099511627776) (hok : ∀ j (h : j < l.length), gok l[j] j) : ∀ (d i nx : Nat) (acc : List Bool), i + d = l.length → acc.length = i → nx ≤ i → nx + (inpsFrom i (l.drop i)).length = ins.length →
    Ev (fun k => spec_l8Eval.l0 k ins acc (nx : Int) l (l.length : Int) (i : Int)) (evalFrom (l.drop i) (ins.drop nx) acc)
  | 0, i, nx, acc, hi, ha, hnx, hn => by
    refine Ev.step (fun k => spec_l8Eval.l0.eq_2 ..) (Ev.neg (by omega) ?_)
    rw [List.drop_eq_nil_of_le (by omega)]; unfold evalFrom; exact Ev.now _
  | d + 1, i, nx, acc, hi, ha, hnx, hn => by
    have hil : i < l.length := by omega
    have hg := hok i hil
    refine Ev.step (fun k => spec_l8Eval.l0.eq_2 ..) (Ev.pos (by omega) <| Ev.pos (by omega) <| Ev.pos (by omega) ?_)
    rw [List.drop_eq_getElem_cons hil] at hn
    rw [Gateb_nat l i hil, w1 i (by omega), List.drop_eq_getElem_cons hil]
    unfold evalFrom
    have ih := fun nx' acc' h1 h2 h3 => spec_l8Eval_loop l ins hl hok d (i + 1) nx' acc' (by omega) h1 h2 h3
    unfold inpsFrom at hn
    rcases hg with ⟨h0, _, _⟩ | ⟨h0, h1, _⟩ | ⟨h0, h1, h2⟩
    · rw [if_pos h0] at hn
      rw [if_pos h0, List.drop_drop]
      simp only [List.length_cons] at hn
      refine Ev.pos h0 <| Ev.pos (by omega) <| Ev.pos (by omega) <| Ev.pos (by omega) ?_
      rw [w1 nx (by omega)]
      refine Ev.at_ (ih (nx + 1) _ (by simp [ha]) (by omega) (by omega)) ?_
      congr 2; unfold gval; rw [if_pos h0, rdOf_nat _ _ _ (by omega)]; simp [List.getD, show nx < ins.length by omega]
    · rw [if_neg (by omega)] at hn
      rw [if_neg (by omega)]
      refine Ev.neg (by omega) <| Ev.pos h0 <| Ev.pos (by omega) <| Ev.pos (by omega) <| Ev.pos (by omega) ?_
      refine Ev.at_ (ih nx _ (by simp [ha]) (by omega) hn) ?_
      congr 2; unfold gval; rw [if_neg (by omega), if_pos h0, rdOf_getD]
    · rw [if_neg (by omega)] at hn
      rw [if_neg (by omega)]
      refine Ev.neg (by omega) <| Ev.neg (by omega) ?_
      have fin : ∀ b, b = gval l[i] (ins.drop nx) acc → Ev (fun k => if acc.length < 140737488355328 then spec_l8Eval.l0 k ins (acc ++ [b]) (nx : Int) l (l.length : Int) ((i + 1 : Nat) : Int) else none) (evalFrom (l.drop (i + 1)) (ins.drop nx) (acc ++ [gval l[i] (ins.drop nx) acc])) := by
        intro b hb
        refine Ev.pos (by omega) ?_
        rw [hb]
        exact ih nx _ (by simp [ha]) (by omega) hn
      have gv : gval l[i] (ins.drop nx) acc = if l[i].f0 = 3 then acc.getD l[i].f1.toNat false && acc.getD l[i].f2.toNat false
        else if l[i].f0 = 4 then acc.getD l[i].f1.toNat false || acc.getD l[i].f2.toNat false
        else acc.getD l[i].f1.toNat false != acc.getD l[i].f2.toNat false := by unfold gval; rw [if_neg (by omega), if_neg (by omega)]
      rw [gv] at fin
      rw [gv]
      simp only [rdOf_getD]
      rcases h0 with h0 | h0 | h0
      · simp only [if_pos h0] at fin ⊢
        refine Ev.pos (by omega) <| Ev.pos (by omega) ?_
        by_cases e : acc.getD l[i].f1.toNat false = true
        · exact Ev.pos e <| Ev.pos (by omega) <| Ev.pos (by omega) (fin _ (by rw [e]; rfl))
        · have e' : acc.getD l[i].f1.toNat false = false := by simpa using e
          exact Ev.neg e (fin _ (by rw [e']; rfl))
      · simp only [if_neg (show ¬ l[i].f0 = 3 by omega), if_pos h0] at fin ⊢
        refine Ev.pos (by omega) <| Ev.pos (by omega) ?_
        by_cases e : acc.getD l[i].f1.toNat false = true
        · exact Ev.pos e (fin _ (by rw [e]; rfl))
        · have e' : acc.getD l[i].f1.toNat false = false := by simpa using e
          exact Ev.neg e <| Ev.pos (by omega) <| Ev.pos (by omega) (fin _ (by rw [e']; rfl))
      · simp only [if_neg (show ¬ l[i].f0 = 3 by omega), if_neg (show ¬ l[i].f0 = 4 by omega)] at fin ⊢
        refine Ev.pos (by omega) <| Ev.pos (by omega) <| Ev.pos (by omega) <| Ev.pos (by omega) (fin _ rfl)
theorem spec_l8Eval_ev (l : List S79) (ins : List Bool) (hl : l.length ≤ 1099511627776) (hok : ∀ j (h : j < l.length), gok l[j] j) (hn : (inps l).length = ins.length) : Ev (fun k => spec_l8Eval.f k l ins) (evalM l ins) := by
  unfold spec_l8Eval.f
  exact spec_l8Eval_loop l ins hl hok l.length 0 0 [] (by omega) rfl (by omega) (by simpa [inps] using hn)

theorem impl_eval_loop (l : List S79) (hl : l.length ≤ 1099511627776) (hok : ∀ j (h : j < l.length), gok l[j] j) : ∀ (d i : Nat) (ins acc : List Bool), i + d = l.length → acc.length = i → (inpsFrom i (l.drop i)).length = ins.length →
    Ev (fun k => impl_eval.l0 k ins acc l (l.length : Int) (i : Int)) (evalFrom (l.drop i) ins acc)
  | 0, i, ins, acc, hi, ha, hn => by
    refine Ev.step (fun k => impl_eval.l0.eq_2 ..) (Ev.neg (by omega) ?_)
    rw [List.drop_eq_nil_of_le (by omega)]; unfold evalFrom; exact Ev.now _
  | d + 1, i, ins, acc, hi, ha, hn => by
    have hil : i < l.length := by omega
    have hg := hok i hil
    refine Ev.step (fun k => impl_eval.l0.eq_2 ..) (Ev.pos (by omega) <| Ev.pos (by omega) <| Ev.pos (by omega) ?_)
    rw [List.drop_eq_getElem_cons hil] at hn
    rw [Gateb_nat l i hil, w1 i (by omega), List.drop_eq_getElem_cons hil]
    unfold evalFrom
    have ih := fun ins' acc' h1 h2 => impl_eval_loop l hl hok d (i + 1) ins' acc' (by omega) h1 h2
    unfold inpsFrom at hn
    rcases hg with ⟨h0, _, _⟩ | ⟨h0, h1, _⟩ | ⟨h0, h1, h2⟩
    · rw [if_pos h0] at hn
      rw [if_pos h0]
      simp only [List.length_cons] at hn
      refine Ev.pos h0 <| Ev.pos (by omega) <| Ev.pos (by omega) <| Ev.pos (by omega) ?_
      refine Ev.at_ (ih (ins.drop 1) _ (by simp [ha]) (by rw [List.length_drop]; omega)) ?_
      congr 2; unfold gval; rw [if_pos h0]; rfl
    · rw [if_neg (by omega)] at hn
      rw [if_neg (by omega)]
      refine Ev.neg (by omega) <| Ev.pos h0 <| Ev.pos (by omega) <| Ev.pos (by omega) <| Ev.pos (by omega) ?_
      refine Ev.at_ (ih ins _ (by simp [ha]) hn) ?_
      congr 2; unfold gval; rw [if_neg (by omega), if_pos h0, rdOf_getD]
    · rw [if_neg (by omega)] at hn
      rw [if_neg (by omega)]
      refine Ev.neg (by omega) <| Ev.neg (by omega) ?_
      have fin : ∀ b, b = gval l[i] ins acc → Ev (fun k => if acc.length < 140737488355328 then impl_eval.l0 k ins (acc ++ [b]) l (l.length : Int) ((i + 1 : Nat) : Int) else none) (evalFrom (l.drop (i + 1)) ins (acc ++ [gval l[i] ins acc])) := by
        intro b hb
        refine Ev.pos (by omega) ?_
        rw [hb]
        exact ih ins _ (by simp [ha]) hn
      have gv : gval l[i] ins acc = if l[i].f0 = 3 then acc.getD l[i].f1.toNat false && acc.getD l[i].f2.toNat false
        else if l[i].f0 = 4 then acc.getD l[i].f1.toNat false || acc.getD l[i].f2.toNat false
        else acc.getD l[i].f1.toNat false != acc.getD l[i].f2.toNat false := by unfold gval; rw [if_neg (by omega), if_neg (by omega)]
      rw [gv] at fin
      rw [gv]
      simp only [rdOf_getD]
      rcases h0 with h0 | h0 | h0
      · simp only [if_pos h0] at fin ⊢
        refine Ev.pos (by omega) <| Ev.pos (by omega) ?_
        by_cases e : acc.getD l[i].f1.toNat false = true
        · exact Ev.pos e <| Ev.pos (by omega) <| Ev.pos (by omega) (fin _ (by rw [e]; rfl))
        · have e' : acc.getD l[i].f1.toNat false = false := by simpa using e
          exact Ev.neg e (fin _ (by rw [e']; rfl))
      · simp only [if_neg (show ¬ l[i].f0 = 3 by omega), if_pos h0] at fin ⊢
        refine Ev.pos (by omega) <| Ev.pos (by omega) ?_
        by_cases e : acc.getD l[i].f1.toNat false = true
        · exact Ev.pos e (fin _ (by rw [e]; rfl))
        · have e' : acc.getD l[i].f1.toNat false = false := by simpa using e
          exact Ev.neg e <| Ev.pos (by omega) <| Ev.pos (by omega) (fin _ (by rw [e']; rfl))
      · simp only [if_neg (show ¬ l[i].f0 = 3 by omega), if_neg (show ¬ l[i].f0 = 4 by omega)] at fin ⊢
        refine Ev.pos h0 <| Ev.pos (by omega) <| Ev.pos (by omega) <| Ev.pos (by omega) <| Ev.pos (by omega) (fin _ rfl)
theorem impl_eval_ev (l : List S79) (ins : List Bool) (hl : l.length ≤ 1099511627776) (hok : ∀ j (h : j < l.length), gok l[j] j) (hn : (inps l).length = ins.length) : Ev (fun k => impl_eval.f k l ins) (evalM l ins) := by
  unfold impl_eval.f
  exact impl_eval_loop l hl hok l.length 0 ins [] (by omega) rfl (by simpa [inps] using hn)

/-- The output of a circuit. -/
def outM (l : List S79) (ins : List Bool) : Bool := rdOf false (evalM l ins) ((l.length : Int) - 1)

theorem impl_output_ev (l : List S79) (ins : List Bool) (hl : 1 ≤ l.length ∧ l.length ≤ 1099511627776) (hok : ∀ j (h : j < l.length), gok l[j] j) (hn : (inps l).length = ins.length) : Ev (fun k => impl_output.f k l ins) (outM l ins) := by
  unfold impl_output.f
  refine Ev.bind (impl_eval_ev l ins (by omega) hok hn) ?_
  rw [wrap_id _ (by omega) (by omega)]
  exact Ev.pos (by omega) <| Ev.pos (by rw [evalM_len]; omega) (Ev.now _)

theorem always_loop (a b : List S79) (ha : 1 ≤ a.length ∧ a.length ≤ 12) (hb : 1 ≤ b.length ∧ b.length ≤ 12) (hoka : ∀ j (h : j < a.length), gok a[j] j) (hokb : ∀ j (h : j < b.length), gok b[j] j) (hab : (inps a).length = (inps b).length) : ∀ (d i : Nat), i + d = 2 ^ (inps a).length → Both (fun _ => True) (fun k => spec_AlwaysSame.l0 k a b ((inps a).length : Int) (i : Int)) (fun k => impl_AlwaysSame.l0 k a b ((inps a).length : Int) ((2 ^ (inps a).length : Nat) : Int) (i : Int)) := by
  have hlen := inps_len a
  have h2 : 2 ^ (inps a).length ≤ 2 ^ 12 := Nat.pow_le_pow_right (by decide) (by omega)
  intro d
  induction d with
  | zero =>
    intro i hi
    refine Both.stepL (fun k => spec_AlwaysSame.l0.eq_2 ..) (Both.stepR (fun k => impl_AlwaysSame.l0.eq_2 ..) ?_)
    rw [u64_nat _ (by omega), shl_one _ (by omega)]
    exact Both.posL (by omega) <| Both.negL (by omega) <| Both.negR (by omega) <| Both.now _ trivial
  | succ d ih =>
    intro i hi
    refine Both.stepL (fun k => spec_AlwaysSame.l0.eq_2 ..) (Both.stepR (fun k => impl_AlwaysSame.l0.eq_2 ..) ?_)
    rw [u64_nat _ (by omega), shl_one _ (by omega), w1 i (by omega), wrap_id ((a.length : Int) - 1) (by omega) (by omega), wrap_id ((b.length : Int) - 1) (by omega) (by omega)]
    have hm := modelM_len (inps a).length (i : Int)
    refine Both.posL (by omega) <| Both.posL (by omega) <| Both.posR (by omega) <| Both.bindL (spec_l4Model_ev _ (by omega) _) <| Both.bindR (impl_model_ev _ (by omega) _) <| Both.bindL (spec_l8Eval_ev a _ (by omega) hoka hm.symm) <| Both.bindR (impl_output_ev a _ (by omega) hoka hm.symm) ?_
    refine Both.posL (by omega) <| Both.posL (by rw [evalM_len]; omega) <| Both.bindL (spec_l8Eval_ev b _ (by omega) hokb (by rw [← hab]; exact hm.symm)) <| Both.bindR (impl_output_ev b _ (by omega) hokb (by rw [← hab]; exact hm.symm)) <| Both.posL (by omega) <| Both.posL (by rw [evalM_len]; omega) ?_
    exact Both.ite (fun h => Both.now _ trivial) (fun _ => ih (i + 1) (by omega))
theorem always_both (a b : List S79) (ha : a.length ≤ 1048576) (hb : b.length ≤ 1048576) : Both (fun _ => True) (fun k => spec_AlwaysSame.f k a b) (fun k => impl_AlwaysSame.f k a b) := by
  unfold spec_AlwaysSame.f impl_AlwaysSame.f
  have bad : Both (fun _ => True) (fun k => spec_AlwaysSame.j0 k a b true) (fun k => impl_AlwaysSame.j0 k a b true) :=
    Both.stepL (fun k => spec_AlwaysSame.j0.eq_2 ..) (Both.stepR (fun k => impl_AlwaysSame.j0.eq_2 ..) (Both.posL rfl (Both.posR rfl (Both.now _ trivial))))
  refine (goodGates_both a (by omega)).bind2 (fun r hr => Both.ite (fun h => ?_) (fun _ => bad))
  refine (goodGates_both b (by omega)).bind2 (fun r' hr' => Both.ite (fun h' => ?_) (fun _ => bad))
  obtain ⟨h1, hok⟩ := hr h
  obtain ⟨h1', hok'⟩ := hr' h'
  have hla := inps_len a
  have e1 := spec_l8Inputs_ev a (by omega)
  have e2 := spec_l8Inputs_ev b (by omega)
  have e3 := impl_inputs_ev a (by omega)
  have e4 := impl_inputs_ev b (by omega)
  refine Both.bindL e1 <| Both.bindL e2 <| Both.bindR e3 <| Both.bindR e4 ?_
  by_cases e : (inps a).length = (inps b).length
  · rw [show (((inps a).length : Int) != ((inps b).length : Int)) = false by simp [e]]
    refine Both.stepL (fun k => spec_AlwaysSame.j0.eq_2 ..) (Both.stepR (fun k => impl_AlwaysSame.j0.eq_2 ..) <| Both.negL (by simp) <| Both.negR (by simp) <| Both.bindL e1 <| Both.bindR e3 ?_)
    rw [shl_one _ (by omega)]
    exact always_loop a b h1 h1' (fun j hj => hok j hj (by omega)) (fun j hj => hok' j hj (by omega)) e (2 ^ (inps a).length) 0 (by omega)
  · rw [show (((inps a).length : Int) != ((inps b).length : Int)) = true by simp; omega]; exact bad

theorem FnExactAlwaysSame : laws_FnExactAlwaysSame.Pure := by
  intro a b hla hlb
  refine Ev.rounds ?_
  unfold laws_FnExactAlwaysSame.f
  by_cases ha : a.length ≤ 1048576
  · refine Ev.bindE (szGateS_ok a _ (by omega) (by omega)) <| Ev.neg (by omega) ?_
    by_cases hb : (b.length : Int) ≤ 1048576 - (a.length : Int)
    · refine Ev.bindE (szGateS_ok b _ (by omega) (by omega)) <| Ev.neg (by omega) ?_
      have ta := toGateS_ev a ha
      have tb := toGateS_ev b (by omega)
      obtain ⟨⟨v, ok⟩, h1, h2, _⟩ := always_both (a.map cvGate) (b.map cvGate) (by simp; omega) (by simp; omega)
      refine Ev.bind ta <| Ev.bind tb <| Ev.bind h1 <| Ev.bind ta <| Ev.bind tb <| Ev.bind h2 <| Ev.neg (by simp) ?_
      exact Ev.step (fun k => laws_FnExactAlwaysSame.j0.eq_2 ..) (Ev.neg (by simp) <| Ev.bind ta <| Ev.bind (eqGateS_self _ (by simp; omega)) <| Ev.pos rfl <| Ev.bind tb <| Ev.bind (eqGateS_self _ (by simp; omega)) <| Ev.pos rfl (Ev.now _))
    · exact Ev.bindE (szGateS_big b _ (by omega) (by omega) (by omega) hlb.1) (Ev.pos (by omega) (Ev.now _))
  · exact Ev.bindE (szGateS_big a _ (by omega) (by omega) (by omega) hla.1) (Ev.pos (by omega) (Ev.now _))

theorem and_pow (m j : Nat) : m &&& 2 ^ j = if m.testBit j = true then 2 ^ j else 0 := by
  apply Nat.eq_of_testBit_eq
  intro i
  rw [Nat.testBit_and]
  by_cases h : i = j
  · subst h
    by_cases hb : m.testBit i = true
    · rw [if_pos hb, hb, Nat.testBit_two_pow_self]; rfl
    · rw [if_neg hb]; simp only [Bool.not_eq_true] at hb; rw [hb, Nat.zero_testBit]; rfl
  · rw [Nat.testBit_two_pow_of_ne (by omega), Bool.and_false]
    split
    · rw [Nat.testBit_two_pow_of_ne (by omega)]
    · rw [Nat.zero_testBit]
theorem add_orp {a p : Nat} (ha : a < 65536) (hp : p ≤ 32768) (hz : a &&& p = 0) : a + p = a ||| p := by
  have := BitVec.add_eq_or_of_and_eq_zero (BitVec.ofNat 64 a) (BitVec.ofNat 64 p) (by
    apply BitVec.eq_of_toNat_eq
    rw [BitVec.toNat_and, BitVec.toNat_ofNat, BitVec.toNat_ofNat, Nat.mod_eq_of_lt (by omega), Nat.mod_eq_of_lt (by omega), hz]; rfl)
  have := congrArg BitVec.toNat this
  rw [BitVec.toNat_add, BitVec.toNat_or, BitVec.toNat_ofNat, BitVec.toNat_ofNat, Nat.mod_eq_of_lt (show a < 2 ^ 64 by omega), Nat.mod_eq_of_lt (show p < 2 ^ 64 by omega), Nat.mod_eq_of_lt (by omega)] at this
  exact this
theorem pow15 {j : Nat} (hj : j < 16) : 2 ^ j ≤ 32768 := Nat.pow_le_pow_right (n := 2) (show 2 > 0 by decide) (show j ≤ 15 by omega)
theorem pow16 {j : Nat} (hj : j ≤ 16) : 2 ^ j ≤ 65536 := Nat.pow_le_pow_right (n := 2) (show 2 > 0 by decide) hj
theorem add_or {a j : Nat} (ha : a < 65536) (hj : j < 16) (h : a.testBit j = false) : a + 2 ^ j = a ||| 2 ^ j :=
  add_orp ha (pow15 hj) (by rw [and_pow, h]; simp)
theorem or_ltp {a p : Nat} (ha : a < 65536) (hp : p ≤ 32768) : a ||| p < 65536 := word_or ha (by omega)
/-- The bits of n laid to the places of a mask, from place j on. -/
def deposit (m : Nat) : Nat → Nat → Nat → Nat → Nat
  | 0, _, _, out => out
  | d + 1, j, n, out => if m.testBit j = true then deposit m d (j + 1) (n / 2) (out + n % 2 * 2 ^ j) else deposit m d (j + 1) n out

theorem GoodS_nat {a b : Int} (h : GoodS a b = true) : 0 ≤ a ∧ a ≤ 65535 ∧ 0 ≤ b ∧ b ≤ 65535 ∧ a ≤ b := by
  unfold GoodS In at h
  simp only [Bool.and_eq_true, decide_eq_true_eq] at h
  omega
theorem tmod_word (x : Int) : (0 ≤ x ∧ Int.tmod x 65536 = x % 65536) ∨ (x < 0 ∧ Int.tmod x 65536 = -((-x) % 65536)) := by
  by_cases h : 0 ≤ x
  · exact Or.inl ⟨h, Int.tmod_eq_emod_of_nonneg h⟩
  · refine Or.inr ⟨by omega, ?_⟩
    have := Int.neg_tmod (-x) 65536
    rw [Int.neg_neg] at this
    rw [this, Int.tmod_eq_emod_of_nonneg (by omega)]
theorem word_wrap (x : Int) : Int.tmod (wrap64 ((Int.tmod x 65536) + 65536)) 65536 = x % 65536 := by
  rcases tmod_word x with ⟨h, e⟩ | ⟨h, e⟩
  · rw [e, wrap_id _ (by omega) (by omega), Int.tmod_eq_emod_of_nonneg (by omega)]; omega
  · rw [e, wrap_id _ (by omega) (by omega), Int.tmod_eq_emod_of_nonneg (by omega)]; omega
theorem bits_word (x : Int) : Go.bits .and .i64 x 65535 = x % 65536 := by
  show IntKind.i64.wrap (((BitVec.ofInt 64 x) &&& (BitVec.ofInt 64 65535)).toNat : Int) = _
  rw [BitVec.toNat_and, BitVec.toNat_ofInt, show (BitVec.ofInt 64 65535).toNat = 2 ^ 16 - 1 by decide, Nat.and_two_pow_sub_one_eq_mod]
  generalize h : (x % ((2 ^ 64 : Nat) : Int)).toNat = n
  rw [wrap_i64_nat _ (by omega)]
  omega
theorem wrap_i64 (y : Int) : IntKind.i64.wrap y = wrap64 y := by
  rw [IntKind.wrap_i64]; unfold wrap64; omega
theorem shl_nat (x : Int) (n : Nat) (h : n ≤ 60) : shl .i64 x (n : Int) = wrap64 (x * ((2 ^ n : Nat) : Int)) := by
  unfold shl
  have e : min (n : Int).toNat IntKind.i64.bits = n := by
    show min (n : Int).toNat 64 = n
    omega
  rw [e, Int.natCast_pow]
  exact wrap_i64 _
theorem shr_nat (x : Int) (n : Nat) (h : n ≤ 60) : shr .i64 x (n : Int) = x / ((2 ^ n : Nat) : Int) := by
  unfold shr
  have e : min (n : Int).toNat IntKind.i64.bits = n := by
    show min (n : Int).toNat 64 = n
    omega
  rw [e, Int.natCast_pow]; rfl
theorem mul_word {a b : Int} (h0 : 0 ≤ a) (h1 : a ≤ 65535) (h2 : 0 ≤ b) (h3 : b ≤ 65535) : 0 ≤ a * b ∧ a * b ≤ 4294836225 := ⟨Int.mul_nonneg h0 h2, Int.mul_le_mul h1 h3 h2 (by omega)⟩

def EndsM (x y : Int) : Int × Int := if x / 65536 = y / 65536 then (x % 65536, y % 65536) else (0, 65535)

theorem shift_lo {b : Int} (h0 : 0 ≤ b) (h1 : b ≤ 65535) : ∃ n : Nat, n < 16 ∧ Int.tmod b 16 = (n : Int) ∧ IntKind.u64.wrap (Int.tmod b 16) = (n : Int) := by
  refine ⟨(b % 16).toNat, by omega, ?_, ?_⟩
  · rw [Int.tmod_eq_emod_of_nonneg h0]; omega
  · rw [Int.tmod_eq_emod_of_nonneg h0, show IntKind.u64.wrap (b % 16) = b % 16 from ?_]
    · omega
    · obtain ⟨m, hm⟩ := Int.eq_ofNat_of_zero_le (show 0 ≤ b % 16 by omega)
      rw [hm]; exact u64_nat m (by omega)
theorem pow_word {n : Nat} (h : n < 16) : 1 ≤ ((2 ^ n : Nat) : Int) ∧ ((2 ^ n : Nat) : Int) ≤ 32768 := by
  have h1 : 2 ^ n ≤ 32768 := Nat.pow_le_pow_right (n := 2) (show 2 > 0 by decide) (show n ≤ 15 by omega)
  have h2 := Nat.two_pow_pos n
  generalize 2 ^ n = p at h1 h2 ⊢
  omega

def mayN (v m x : Nat) : Nat := if x = 1 then v ||| m else andn 65535 v
theorem mayN_lt {v m x : Nat} (hv : v < 65536) (hm : m < 65536) : mayN v m x < 65536 := by
  unfold mayN; split
  · exact word_or hv hm
  · exact word_andn (by omega)

def allIn (lo hi : Int) (l : List Int) : Bool := l.all fun x => In x lo hi
theorem allIn_drop (lo hi : Int) (l : List Int) (i : Nat) (h : i < l.length) : allIn lo hi (l.drop i) = (In l[i] lo hi && allIn lo hi (l.drop (i + 1))) := by
  unfold allIn
  rw [List.drop_eq_getElem_cons h]; rfl

end Go.Proofs.Ytalikhegkfmdhaa.Pure
