/- Proved here: the pure statement of the law FnExactWayCount: what the printed functions compute answers true. Conditions: the statement's own bounds. -/
import Derived.Test.YtcmhkgpalfljbaaPIWx1
import Derived.Test.YtcmhkgpalfljbaaPIWx2
import Derived.Test.YtcmhkgpalfljbaaPIWx3
import Derived.Test.YtcmhkgpalfljbaaPIWx4
import Derived.Test.YtcmhkgpalfljbaaPIWx5
import Derived.Test.YtcmhkgpalfljbaaPIWx6
import Derived.Test.YtcmhkgpalfljbaaPIWx7
namespace Go.Proofs.Ytcmhkgpalfljbaa.Pure
open Go Go.RowKit Go.Proofs.Ytcmhkgpalfljbaa.PIW Go.Proofs.YtcmhkgpalfljbaaW.PrintWords Go.Proofs.YtcmhkgpalfljbaaW.PrintLast Go.Proofs.YtcmhkgpalfljbaaW.PrintMore
set_option linter.unusedVariables false
set_option linter.unusedSimpArgs false

/-- A number lies between two. -/
def In (a lo hi : Int) : Bool := decide (lo ≤ a) && decide (a ≤ hi)
theorem In_true {a lo hi : Int} : In a lo hi = true ↔ lo ≤ a ∧ a ≤ hi := by simp [In]
theorem In_false {a lo hi : Int} : In a lo hi = false ↔ ¬ (lo ≤ a ∧ a ≤ hi) := by rw [← In_true]; simp
theorem In_ite {a lo hi : Int} : (if a ≥ lo then some (decide (a ≤ hi)) else some false) = some (In a lo hi) := by
  unfold In; by_cases h : lo ≤ a <;> simp [h]
theorem ite_some {α : Type} {c : Prop} [Decidable c] (a b : α) : (if c then some a else some b) = some (if c then a else b) := by split <;> rfl
theorem ne_self_bool (b : Bool) : ((b != b) = true) = False := by simp

theorem spec_l1In_eq (a b c : Int) : spec_l1In.f a b c = some (In a b c) := by unfold spec_l1In.f; exact In_ite

theorem impl_in_eq (a b c : Int) : impl_in.f a b c = some (In a b c) := by unfold impl_in.f; exact In_ite

/-- The bits of a number that another one has not. -/
def andn (a b : Nat) : Nat := a ^^^ (a &&& b)
theorem testBit_andn (a b i : Nat) : (andn a b).testBit i = (a.testBit i && !b.testBit i) := by
  unfold andn; rw [Nat.testBit_xor, Nat.testBit_and]; cases a.testBit i <;> cases b.testBit i <;> rfl
theorem andn_le (a b : Nat) : andn a b ≤ a := by
  have h : andn a b &&& a = andn a b := by
    apply Nat.eq_of_testBit_eq; intro i; rw [Nat.testBit_and, testBit_andn]; cases a.testBit i <;> cases b.testBit i <;> rfl
  rw [← h]; exact Nat.and_le_right
theorem wrap_i64_nat (n : Nat) (h : n < 9223372036854775808) : IntKind.i64.wrap (n : Int) = n := by
  rw [IntKind.wrap_i64]; omega
theorem ofInt_nat (n : Nat) : BitVec.ofInt 64 (n : Int) = BitVec.ofNat 64 n := BitVec.ofInt_natCast 64 n
theorem bits_and (a b : Nat) (ha : a < 9223372036854775808) (hb : b < 9223372036854775808) : Go.bits .and .i64 a b = ((a &&& b : Nat) : Int) := by
  show IntKind.i64.wrap (((BitVec.ofInt 64 (a : Int)) &&& (BitVec.ofInt 64 (b : Int))).toNat : Int) = _
  rw [ofInt_nat, ofInt_nat, BitVec.toNat_and, BitVec.toNat_ofNat, BitVec.toNat_ofNat, Nat.mod_eq_of_lt (by omega), Nat.mod_eq_of_lt (by omega)]
  exact wrap_i64_nat _ (Nat.lt_of_le_of_lt Nat.and_le_left ha)
theorem or_lt63 {a b : Nat} (ha : a < 9223372036854775808) (hb : b < 9223372036854775808) : a ||| b < 9223372036854775808 := Nat.or_lt_two_pow (n := 63) ha hb
theorem xor_lt63 {a b : Nat} (ha : a < 9223372036854775808) (hb : b < 9223372036854775808) : a ^^^ b < 9223372036854775808 := Nat.xor_lt_two_pow (n := 63) ha hb
theorem bits_or (a b : Nat) (ha : a < 9223372036854775808) (hb : b < 9223372036854775808) : Go.bits .or .i64 a b = ((a ||| b : Nat) : Int) := by
  show IntKind.i64.wrap (((BitVec.ofInt 64 (a : Int)) ||| (BitVec.ofInt 64 (b : Int))).toNat : Int) = _
  rw [ofInt_nat, ofInt_nat, BitVec.toNat_or, BitVec.toNat_ofNat, BitVec.toNat_ofNat, Nat.mod_eq_of_lt (by omega), Nat.mod_eq_of_lt (by omega)]
  exact wrap_i64_nat _ (or_lt63 ha hb)
theorem bits_xor (a b : Nat) (ha : a < 9223372036854775808) (hb : b < 9223372036854775808) : Go.bits .xor .i64 a b = ((a ^^^ b : Nat) : Int) := by
  show IntKind.i64.wrap (((BitVec.ofInt 64 (a : Int)) ^^^ (BitVec.ofInt 64 (b : Int))).toNat : Int) = _
  rw [ofInt_nat, ofInt_nat, BitVec.toNat_xor, BitVec.toNat_ofNat, BitVec.toNat_ofNat, Nat.mod_eq_of_lt (by omega), Nat.mod_eq_of_lt (by omega)]
  exact wrap_i64_nat _ (xor_lt63 ha hb)
theorem bits_andNot (a b : Nat) (ha : a < 9223372036854775808) (hb : b < 9223372036854775808) : Go.bits .andNot .i64 a b = ((andn a b : Nat) : Int) := by
  show IntKind.i64.wrap (((BitVec.ofInt 64 (a : Int)) &&& ~~~ (BitVec.ofInt 64 (b : Int))).toNat : Int) = _
  rw [ofInt_nat, ofInt_nat]
  have h : (BitVec.ofNat 64 a &&& ~~~ BitVec.ofNat 64 b).toNat = andn a b := by
    apply Nat.eq_of_testBit_eq; intro i
    rw [testBit_andn]
    by_cases hi : i < 64
    · rw [BitVec.testBit_toNat, BitVec.getLsbD_and, BitVec.getLsbD_not, BitVec.getLsbD_ofNat, BitVec.getLsbD_ofNat]
      simp [hi]
    · have h1 : a.testBit i = false := Nat.testBit_lt_two_pow (Nat.lt_of_lt_of_le ha (by have := Nat.pow_le_pow_right (show 0 < 2 by decide) (show 63 ≤ i by omega); omega))
      rw [h1, BitVec.testBit_toNat, BitVec.getLsbD_of_ge _ _ (by omega)]; rfl
  rw [h]
  exact wrap_i64_nat _ (Nat.lt_of_le_of_lt (andn_le a b) ha)
theorem and_zero_bit {a b : Nat} (h : a &&& b = 0) (i : Nat) : (a.testBit i && b.testBit i) = false := by rw [← Nat.testBit_and, h]; simp
theorem nat_of {x hi : Int} (h : In x 0 hi = true) : ∃ n : Nat, x = (n : Int) ∧ (n : Int) ≤ hi := by
  have h := In_true.1 h
  exact ⟨x.toNat, by omega, by omega⟩

theorem word_or {a b : Nat} (ha : a < 65536) (hb : b < 65536) : a ||| b < 65536 := Nat.or_lt_two_pow (n := 16) ha hb
theorem word_xor {a b : Nat} (ha : a < 65536) (hb : b < 65536) : a ^^^ b < 65536 := Nat.xor_lt_two_pow (n := 16) ha hb
theorem word_and {a b : Nat} (ha : a < 65536) : a &&& b < 65536 := Nat.lt_of_le_of_lt Nat.and_le_left ha
theorem word_andn {a b : Nat} (ha : a < 65536) : andn a b < 65536 := Nat.lt_of_le_of_lt (andn_le a b) ha

theorem Ev.pos {α : Type} {c : Prop} [Decidable c] {A B : Nat → Option α} {r : α} (h : c) (e : Ev A r) : Ev (fun k => if c then A k else B k) r := Ev.congr (fun _ => if_pos h) e
theorem Ev.neg {α : Type} {c : Prop} [Decidable c] {A B : Nat → Option α} {r : α} (h : ¬ c) (e : Ev B r) : Ev (fun k => if c then A k else B k) r := Ev.congr (fun _ => if_neg h) e
theorem Ev.bindE {α β : Type} {g : Option α} {f : Nat → α → Option β} {a : α} {r : β} (h : g = some a) (k : Ev (fun n => f n a) r) : Ev (fun n => g.bind (f n)) r := by subst h; exact k
theorem Ev.at_ {α : Type} {g : Nat → Option α} {r r' : α} (h : Ev g r) (e : r = r') : Ev g r' := e ▸ h
theorem Ev.one {α : Type} {g : Nat → Option α} {r r' : α} (h : Ev g r) (h' : Ev g r') : r = r' := by
  obtain ⟨K, h⟩ := h; obtain ⟨K', h'⟩ := h'
  have a := h (max K K') (by omega); have b := h' (max K K') (by omega)
  rw [a] at b; exact Option.some.inj b
/-- Two texts come to one answer, of which P holds. -/
def Both {α : Type} (P : α → Prop) (g f : Nat → Option α) : Prop := ∃ r, Ev g r ∧ Ev f r ∧ P r
theorem Both.now {α : Type} {P : α → Prop} (r : α) (h : P r) : Both P (fun _ => some r) (fun _ => some r) := ⟨r, Ev.now r, Ev.now r, h⟩
theorem Both.now2 {α : Type} {P : α → Prop} (r r' : α) (e : r = r') (h : P r) : Both P (fun _ => some r) (fun _ => some r') := ⟨r, Ev.now r, e ▸ Ev.now r, h⟩
theorem Both.mono {α : Type} {P Q : α → Prop} {g f : Nat → Option α} (h : Both P g f) (hq : ∀ r, P r → Q r) : Both Q g f := by obtain ⟨r, a, b, c⟩ := h; exact ⟨r, a, b, hq r c⟩
theorem Both.congrL {α : Type} {P : α → Prop} {g g' f : Nat → Option α} (e : ∀ k, g k = g' k) (h : Both P g' f) : Both P g f := by obtain ⟨r, a, b, c⟩ := h; exact ⟨r, a.congr e, b, c⟩
theorem Both.congrR {α : Type} {P : α → Prop} {g f f' : Nat → Option α} (e : ∀ k, f k = f' k) (h : Both P g f') : Both P g f := by obtain ⟨r, a, b, c⟩ := h; exact ⟨r, a, b.congr e, c⟩
theorem Both.posL {α : Type} {P : α → Prop} {c : Prop} [Decidable c] {A B f : Nat → Option α} (h : c) (e : Both P A f) : Both P (fun k => if c then A k else B k) f := e.congrL (fun _ => if_pos h)
theorem Both.negL {α : Type} {P : α → Prop} {c : Prop} [Decidable c] {A B f : Nat → Option α} (h : ¬ c) (e : Both P B f) : Both P (fun k => if c then A k else B k) f := e.congrL (fun _ => if_neg h)
theorem Both.posR {α : Type} {P : α → Prop} {c : Prop} [Decidable c] {A B f : Nat → Option α} (h : c) (e : Both P f A) : Both P f (fun k => if c then A k else B k) := e.congrR (fun _ => if_pos h)
theorem Both.negR {α : Type} {P : α → Prop} {c : Prop} [Decidable c] {A B f : Nat → Option α} (h : ¬ c) (e : Both P f B) : Both P f (fun k => if c then A k else B k) := e.congrR (fun _ => if_neg h)
theorem Both.ite {α : Type} {P : α → Prop} {c : Prop} [Decidable c] {A B A' B' : Nat → Option α} (h1 : c → Both P A A') (h2 : ¬ c → Both P B B') : Both P (fun k => if c then A k else B k) (fun k => if c then A' k else B' k) := by
  by_cases h : c
  · exact ((h1 h).posL h).posR h
  · exact ((h2 h).negL h).negR h
theorem Both.stepL {α : Type} {P : α → Prop} {g g' f : Nat → Option α} (e : ∀ k, g (k + 1) = g' k) (h : Both P g' f) : Both P g f := by obtain ⟨r, a, b, c⟩ := h; exact ⟨r, a.step e, b, c⟩
theorem Both.stepR {α : Type} {P : α → Prop} {g f f' : Nat → Option α} (e : ∀ k, f (k + 1) = f' k) (h : Both P g f') : Both P g f := by obtain ⟨r, a, b, c⟩ := h; exact ⟨r, a, b.step e, c⟩
theorem Both.bindL {α β : Type} {P : β → Prop} {g : Nat → Option α} {F : Nat → α → Option β} {f : Nat → Option β} {a : α} (h : Ev g a) (e : Both P (fun k => F k a) f) : Both P (fun k => (g k).bind (F k)) f := by obtain ⟨r, x, y, c⟩ := e; exact ⟨r, Ev.bind h x, y, c⟩
theorem Both.bindR {α β : Type} {P : β → Prop} {g : Nat → Option α} {F : Nat → α → Option β} {f : Nat → Option β} {a : α} (h : Ev g a) (e : Both P f (fun k => F k a)) : Both P f (fun k => (g k).bind (F k)) := by obtain ⟨r, x, y, c⟩ := e; exact ⟨r, x, Ev.bind h y, c⟩
theorem Both.bindEL {α β : Type} {P : β → Prop} {g : Option α} {F : Nat → α → Option β} {f : Nat → Option β} {a : α} (h : g = some a) (e : Both P (fun k => F k a) f) : Both P (fun k => g.bind (F k)) f := by subst h; exact e
theorem Both.bindER {α β : Type} {P : β → Prop} {g : Option α} {F : Nat → α → Option β} {f : Nat → Option β} {a : α} (h : g = some a) (e : Both P f (fun k => F k a)) : Both P f (fun k => g.bind (F k)) := by subst h; exact e
theorem Both.bind2 {α β : Type} {P : β → Prop} {Q : α → Prop} {g g' : Nat → Option α} {F F' : Nat → α → Option β} (h : Both Q g g') (e : ∀ a, Q a → Both P (fun k => F k a) (fun k => F' k a)) : Both P (fun k => (g k).bind (F k)) (fun k => (g' k).bind (F' k)) := by
  obtain ⟨a, x, y, c⟩ := h
  exact ((e a c).bindL x).bindR y
theorem Both.self {α : Type} {P : α → Prop} {g : Nat → Option α} {r : α} (h : Ev g r) (p : P r) : Both P g g := ⟨r, h, h, p⟩
theorem w1 (i : Nat) (h : i < 4611686018427387904) : wrap64 ((i : Int) + 1) = ((i + 1 : Nat) : Int) := by unfold wrap64; omega
theorem wrap_id (x : Int) (h0 : -9223372036854775808 ≤ x) (h1 : x ≤ 9223372036854775807) : wrap64 x = x := by unfold wrap64; omega
theorem rd_nat (l : List Int) (i : Nat) (h : i < l.length) : rd l (i : Int) = l[i] := by unfold rd; simp [List.getD, h]
theorem rdOf_nat {α : Type} (d : α) (l : List α) (i : Nat) (h : i < l.length) : rdOf d l (i : Int) = l[i] := by unfold rdOf; simp [List.getD, h]
theorem set_take {α : Type} (l : List α) (i : Nat) (v : α) (h : i < l.length) : (l.set i v).take (i + 1) = l.take i ++ [v] := by
  rw [List.take_succ_eq_append_getElem (by simpa using h), List.take_set_of_le (Nat.le_refl i)]; simp

theorem u64_nat (i : Nat) (h : i < 9223372036854775808) : IntKind.u64.wrap (i : Int) = (i : Int) := by
  have : IntKind.u64.wrap (i : Int) = (i : Int) % 18446744073709551616 := by simp [IntKind.wrap, IntKind.bits, IntKind.signed]
  rw [this]; omega
theorem shl_one (n : Nat) (h : n ≤ 60) : shl .i64 1 (n : Int) = ((2 ^ n : Nat) : Int) := by
  have hb : IntKind.i64.bits = 64 := rfl
  unfold shl
  rw [Int.toNat_natCast, hb, Nat.min_eq_left (by omega), Int.one_mul]
  have h1 : 2 ^ n ≤ 2 ^ 60 := Nat.pow_le_pow_right (by decide) h
  have h2 : ((2 : Int) ^ n) = ((2 ^ n : Nat) : Int) := by rw [Int.natCast_pow]; rfl
  rw [h2]; exact wrap_i64_nat _ (by omega)
/-- Bit i of a number, as the programs read it. -/
def bitM (x : Int) (i : Nat) : Bool := Go.bits .and .i64 (shr .i64 x (i : Int)) 1 == 1
def modelM (n : Nat) (x : Int) : List Bool := (List.range n).map (fun i => bitM x i)
theorem modelM_len (n : Nat) (x : Int) : (modelM n x).length = n := by simp [modelM]

def GoodK (v m : Int) : Bool := In v 0 65535 && In m 0 65535 && (Go.bits .and .i64 v m == 0)
def GoodS (lo hi : Int) : Bool := In lo 0 65535 && In hi 0 65535 && decide (lo ≤ hi)

def JoinK (a b c d : Int) : Int × Int := (Go.bits .andNot .i64 a (Go.bits .or .i64 (Go.bits .or .i64 b d) (Go.bits .xor .i64 a c)), Go.bits .or .i64 (Go.bits .or .i64 b d) (Go.bits .xor .i64 a c))

def JoinS (a b c d : Int) : Int × Int := (mn a c, mx b d)

def MeetS (a b c d : Int) : Int × Int × Bool := if mx a c > mn b d then (0, 0, false) else (mx a c, mn b d, true)

def LessS (a b c d : Int) : Int × Int × Int × Int × Bool := if a ≥ d then (0, 0, 0, 0, false) else (a, mn b (wrap64 (d - 1)), mx c (wrap64 (a + 1)), d, true)

theorem GoodK_nat {v m : Int} (h : GoodK v m = true) : ∃ a b : Nat, v = a ∧ m = b ∧ a < 65536 ∧ b < 65536 ∧ a &&& b = 0 := by
  unfold GoodK at h
  simp only [Bool.and_eq_true, beq_iff_eq] at h
  obtain ⟨⟨h1, h2⟩, h3⟩ := h
  obtain ⟨a, rfl, ha⟩ := nat_of h1
  obtain ⟨b, rfl, hb⟩ := nat_of h2
  rw [bits_and a b (by omega) (by omega)] at h3
  exact ⟨a, b, rfl, rfl, by omega, by omega, by omega⟩

theorem Stepa_nat (l : List S53) (i : Nat) (h : i < l.length) : rd_T53 l (i : Int) = l[i] := by unfold rd_T53; simp [List.getD, h]
theorem Stepb_nat (l : List S51) (i : Nat) (h : i < l.length) : rd_T51 l (i : Int) = l[i] := by unfold rd_T51; simp [List.getD, h]

theorem toStep_eq (a0 a1 a2 a3 a4 a5 : Int) : laws_toStep.f a0 a1 a2 a3 a4 a5 = some (a0, a1, a2, a3, a4, a5) := rfl

def cvStep (x : S53) : S51 := ⟨x.f0, x.f1, x.f2, x.f3, x.f4, x.f5⟩
theorem toStepS_loop (l : List S53) (hl : l.length ≤ 1099511627776) : ∀ (d i : Nat) (acc : List S51), i + d = l.length → acc.length = l.length → acc.take i = (l.take i).map cvStep → Ev (fun k => laws_toStepS.l0 k l acc (i : Int)) (l.map cvStep)
  | 0, i, acc, hi, ha, ht => by
    refine Ev.step (fun k => laws_toStepS.l0.eq_2 ..) ?_
    refine Ev.neg (by omega) ?_
    rw [List.take_of_length_le (by omega), List.take_of_length_le (by omega)] at ht
    rw [ht]; exact Ev.now _
  | d + 1, i, acc, hi, ha, ht => by
    refine Ev.step (fun k => laws_toStepS.l0.eq_2 ..) ?_
    refine Ev.pos (by omega) (Ev.pos (by omega) (Ev.bindE (toStep_eq ..) (Ev.pos (by omega) ?_)))
    rw [w1 i (by omega), Int.toNat_natCast]
    refine toStepS_loop l hl d (i + 1) _ (by omega) (by simpa using ha) ?_
    rw [set_take _ _ _ (by omega), ht, List.take_succ_eq_append_getElem (show i < l.length by omega), List.map_append]
    rw [Stepa_nat l i (by omega)]; rfl
theorem toStepS_ev (l : List S53) (hl : l.length ≤ 1048576) : Ev (fun k => laws_toStepS.f k l) (l.map cvStep) := by
  unfold laws_toStepS.f
  refine Ev.pos (by omega) (Ev.pos (by omega) ?_)
  exact toStepS_loop l (by omega) l.length 0 _ (by omega) (by simp) (by simp)

theorem szStepS_ok (l : List S53) (a : Int) (h : (l.length : Int) ≤ a) (ha : a ≤ 1048576) : laws_szStepS.f l a = some (a - l.length) := by
  unfold laws_szStepS.f; rw [wrap_id _ (by omega) (by omega), if_neg (by omega)]
theorem szStepS_big (l : List S53) (a : Int) (h : a < (l.length : Int)) (ha : a ≤ 1048576) (h0 : 0 ≤ a) (hl : l.length ≤ maxLen) : laws_szStepS.f l a = some (-1) := by
  unfold maxLen at hl; unfold laws_szStepS.f; rw [wrap_id _ (by omega) (by omega), if_pos (by omega)]

theorem eqStep_self (a0 a1 a2 a3 a4 a5 : Int) : laws_eqStep.f a0 a1 a2 a3 a4 a5 a0 a1 a2 a3 a4 a5 = some true := by unfold laws_eqStep.f; simp
theorem eqStepS_loop (l : List S51) (hl : l.length ≤ 1099511627776) : ∀ (d i : Nat), i + d = l.length → Ev (fun k => laws_eqStepS.l0 k l l (i : Int)) true
  | 0, i, hi => by
    refine Ev.step (fun k => laws_eqStepS.l0.eq_2 ..) ?_
    exact Ev.neg (by omega) (Ev.now _)
  | d + 1, i, hi => by
    refine Ev.step (fun k => laws_eqStepS.l0.eq_2 ..) ?_
    refine Ev.pos (by omega) (Ev.pos (by omega) (Ev.pos (by omega) (Ev.bindE (eqStep_self ..) (Ev.pos rfl ?_))))
    rw [w1 i (by omega)]
    exact eqStepS_loop l hl d (i + 1) (by omega)
theorem eqStepS_self (l : List S51) (hl : l.length ≤ 1099511627776) : Ev (fun k => laws_eqStepS.f k l l) true := by
  unfold laws_eqStepS.f
  exact Ev.pos rfl (eqStepS_loop l hl l.length 0 (by omega))

theorem and_pow (m j : Nat) : m &&& 2 ^ j = if m.testBit j = true then 2 ^ j else 0 := by
  apply Nat.eq_of_testBit_eq
  intro i
  rw [Nat.testBit_and]
  by_cases h : i = j
  · subst h
    by_cases hb : m.testBit i = true
    · rw [if_pos hb, hb, Nat.testBit_two_pow_self]; rfl
    · rw [if_neg hb]; simp only [Bool.not_eq_true] at hb; rw [hb, Nat.zero_testBit]; rfl
  · rw [Nat.testBit_two_pow_of_ne (by omega), Bool.and_false]
    split
    · rw [Nat.testBit_two_pow_of_ne (by omega)]
    · rw [Nat.zero_testBit]
theorem add_orp {a p : Nat} (ha : a < 65536) (hp : p ≤ 32768) (hz : a &&& p = 0) : a + p = a ||| p := by
  have := BitVec.add_eq_or_of_and_eq_zero (BitVec.ofNat 64 a) (BitVec.ofNat 64 p) (by
    apply BitVec.eq_of_toNat_eq
    rw [BitVec.toNat_and, BitVec.toNat_ofNat, BitVec.toNat_ofNat, Nat.mod_eq_of_lt (by omega), Nat.mod_eq_of_lt (by omega), hz]; rfl)
  have := congrArg BitVec.toNat this
  rw [BitVec.toNat_add, BitVec.toNat_or, BitVec.toNat_ofNat, BitVec.toNat_ofNat, Nat.mod_eq_of_lt (show a < 2 ^ 64 by omega), Nat.mod_eq_of_lt (show p < 2 ^ 64 by omega), Nat.mod_eq_of_lt (by omega)] at this
  exact this
theorem pow15 {j : Nat} (hj : j < 16) : 2 ^ j ≤ 32768 := Nat.pow_le_pow_right (n := 2) (show 2 > 0 by decide) (show j ≤ 15 by omega)
theorem pow16 {j : Nat} (hj : j ≤ 16) : 2 ^ j ≤ 65536 := Nat.pow_le_pow_right (n := 2) (show 2 > 0 by decide) hj
theorem add_or {a j : Nat} (ha : a < 65536) (hj : j < 16) (h : a.testBit j = false) : a + 2 ^ j = a ||| 2 ^ j :=
  add_orp ha (pow15 hj) (by rw [and_pow, h]; simp)
theorem or_ltp {a p : Nat} (ha : a < 65536) (hp : p ≤ 32768) : a ||| p < 65536 := word_or ha (by omega)
/-- The bits of n laid to the places of a mask, from place j on. -/
def deposit (m : Nat) : Nat → Nat → Nat → Nat → Nat
  | 0, _, _, out => out
  | d + 1, j, n, out => if m.testBit j = true then deposit m d (j + 1) (n / 2) (out + n % 2 * 2 ^ j) else deposit m d (j + 1) n out

theorem GoodS_nat {a b : Int} (h : GoodS a b = true) : 0 ≤ a ∧ a ≤ 65535 ∧ 0 ≤ b ∧ b ≤ 65535 ∧ a ≤ b := by
  unfold GoodS In at h
  simp only [Bool.and_eq_true, decide_eq_true_eq] at h
  omega
theorem tmod_word (x : Int) : (0 ≤ x ∧ Int.tmod x 65536 = x % 65536) ∨ (x < 0 ∧ Int.tmod x 65536 = -((-x) % 65536)) := by
  by_cases h : 0 ≤ x
  · exact Or.inl ⟨h, Int.tmod_eq_emod_of_nonneg h⟩
  · refine Or.inr ⟨by omega, ?_⟩
    have := Int.neg_tmod (-x) 65536
    rw [Int.neg_neg] at this
    rw [this, Int.tmod_eq_emod_of_nonneg (by omega)]
theorem word_wrap (x : Int) : Int.tmod (wrap64 ((Int.tmod x 65536) + 65536)) 65536 = x % 65536 := by
  rcases tmod_word x with ⟨h, e⟩ | ⟨h, e⟩
  · rw [e, wrap_id _ (by omega) (by omega), Int.tmod_eq_emod_of_nonneg (by omega)]; omega
  · rw [e, wrap_id _ (by omega) (by omega), Int.tmod_eq_emod_of_nonneg (by omega)]; omega
theorem bits_word (x : Int) : Go.bits .and .i64 x 65535 = x % 65536 := by
  show IntKind.i64.wrap (((BitVec.ofInt 64 x) &&& (BitVec.ofInt 64 65535)).toNat : Int) = _
  rw [BitVec.toNat_and, BitVec.toNat_ofInt, show (BitVec.ofInt 64 65535).toNat = 2 ^ 16 - 1 by decide, Nat.and_two_pow_sub_one_eq_mod]
  generalize h : (x % ((2 ^ 64 : Nat) : Int)).toNat = n
  rw [wrap_i64_nat _ (by omega)]
  omega
theorem wrap_i64 (y : Int) : IntKind.i64.wrap y = wrap64 y := by
  rw [IntKind.wrap_i64]; unfold wrap64; omega
theorem shl_nat (x : Int) (n : Nat) (h : n ≤ 60) : shl .i64 x (n : Int) = wrap64 (x * ((2 ^ n : Nat) : Int)) := by
  unfold shl
  have e : min (n : Int).toNat IntKind.i64.bits = n := by
    show min (n : Int).toNat 64 = n
    omega
  rw [e, Int.natCast_pow]
  exact wrap_i64 _
theorem shr_nat (x : Int) (n : Nat) (h : n ≤ 60) : shr .i64 x (n : Int) = x / ((2 ^ n : Nat) : Int) := by
  unfold shr
  have e : min (n : Int).toNat IntKind.i64.bits = n := by
    show min (n : Int).toNat 64 = n
    omega
  rw [e, Int.natCast_pow]; rfl
theorem mul_word {a b : Int} (h0 : 0 ≤ a) (h1 : a ≤ 65535) (h2 : 0 ≤ b) (h3 : b ≤ 65535) : 0 ≤ a * b ∧ a * b ≤ 4294836225 := ⟨Int.mul_nonneg h0 h2, Int.mul_le_mul h1 h3 h2 (by omega)⟩

def EndsM (x y : Int) : Int × Int := if x / 65536 = y / 65536 then (x % 65536, y % 65536) else (0, 65535)

theorem shift_lo {b : Int} (h0 : 0 ≤ b) (h1 : b ≤ 65535) : ∃ n : Nat, n < 16 ∧ Int.tmod b 16 = (n : Int) ∧ IntKind.u64.wrap (Int.tmod b 16) = (n : Int) := by
  refine ⟨(b % 16).toNat, by omega, ?_, ?_⟩
  · rw [Int.tmod_eq_emod_of_nonneg h0]; omega
  · rw [Int.tmod_eq_emod_of_nonneg h0, show IntKind.u64.wrap (b % 16) = b % 16 from ?_]
    · omega
    · obtain ⟨m, hm⟩ := Int.eq_ofNat_of_zero_le (show 0 ≤ b % 16 by omega)
      rw [hm]; exact u64_nat m (by omega)
theorem pow_word {n : Nat} (h : n < 16) : 1 ≤ ((2 ^ n : Nat) : Int) ∧ ((2 ^ n : Nat) : Int) ≤ 32768 := by
  have h1 : 2 ^ n ≤ 32768 := Nat.pow_le_pow_right (n := 2) (show 2 > 0 by decide) (show n ≤ 15 by omega)
  have h2 := Nat.two_pow_pos n
  generalize 2 ^ n = p at h1 h2 ⊢
  omega

def mayN (v m x : Nat) : Nat := if x = 1 then v ||| m else andn 65535 v
theorem mayN_lt {v m x : Nat} (hv : v < 65536) (hm : m < 65536) : mayN v m x < 65536 := by
  unfold mayN; split
  · exact word_or hv hm
  · exact word_andn (by omega)

def allIn (lo hi : Int) (l : List Int) : Bool := l.all fun x => In x lo hi
theorem allIn_drop (lo hi : Int) (l : List Int) (i : Nat) (h : i < l.length) : allIn lo hi (l.drop i) = (In l[i] lo hi && allIn lo hi (l.drop (i + 1))) := by
  unfold allIn
  rw [List.drop_eq_getElem_cons h]; rfl

/-- What is left of a step's validity, at the letters that are still to come: the code's own reading. -/
def rangeP (s0 L : Int) : Int × Int := if L = 111 then (1, 10) else if L = 100 ∨ L = 115 then (0, 5) else if L = 116 then (1, 19) else if s0 = 4 then (256, 65535) else if s0 = 5 then (0, 7) else (0, 255)
def vres (s0 s1 s2 s3 s4 s5 : Int) : List Int → Int → Int → Int → Int → Int → Bool
  | [], r1, r2, r3, r4, r5 => In s0 1 11 && ((0 : Int) == 0 && (r1 == 0 && (r2 == 0 && (r3 == 0 && (r4 == 0 && (r5 == 0))))))
  | L :: Ls, r1, r2, r3, r4, r5 => In (impl_Step_valid.fld L s1 s2 s3 s4 s5) (rangeP s0 L).1 (rangeP s0 L).2 && vres s0 s1 s2 s3 s4 s5 Ls (if L = 111 then 0 else r1) (if L = 111 then r2 else if L = 100 then 0 else r2) (if L = 111 then r3 else if L = 100 then r3 else if L = 115 then 0 else r3) (if L = 111 then r4 else if L = 100 then r4 else if L = 115 then r4 else if L = 105 then 0 else r4) (if L = 111 then r5 else if L = 100 then r5 else if L = 115 then r5 else if L = 105 then r5 else 0)
def letP (s0 : Int) : List Int := if s0 = 1 then [111, 100, 115] else if s0 = 2 then [111, 100, 105] else if s0 = 3 ∨ s0 = 4 ∨ s0 = 6 ∨ s0 = 7 then [100, 105] else if s0 = 5 then [100, 115, 105] else if s0 = 8 then [116] else if s0 = 9 ∨ s0 = 10 then [100, 115, 116] else []
def VS (s0 s1 s2 s3 s4 s5 : Int) : Bool := vres s0 s1 s2 s3 s4 s5 (letP s0) s1 s2 s3 s4 s5
/-- The same, said at once. -/
def VK (s0 s1 s2 s3 s4 s5 : Int) : Bool :=
  if s0 = 1 then In s1 1 10 && In s2 0 5 && In s3 0 5 && (s4 == 0) && (s5 == 0)
  else if s0 = 2 then In s1 1 10 && In s2 0 5 && (s3 == 0) && In s4 0 255 && (s5 == 0)
  else if s0 = 3 ∨ s0 = 6 ∨ s0 = 7 then (s1 == 0) && In s2 0 5 && (s3 == 0) && In s4 0 255 && (s5 == 0)
  else if s0 = 4 then (s1 == 0) && In s2 0 5 && (s3 == 0) && In s4 256 65535 && (s5 == 0)
  else if s0 = 5 then (s1 == 0) && In s2 0 5 && In s3 0 5 && In s4 0 7 && (s5 == 0)
  else if s0 = 8 then (s1 == 0) && (s2 == 0) && (s3 == 0) && (s4 == 0) && In s5 1 19
  else if s0 = 9 ∨ s0 = 10 then (s1 == 0) && In s2 0 5 && In s3 0 5 && (s4 == 0) && In s5 1 19
  else if s0 = 11 then (s1 == 0) && (s2 == 0) && (s3 == 0) && (s4 == 0) && (s5 == 0)
  else false
theorem VS_eq (s0 s1 s2 s3 s4 s5 : Int) : VS s0 s1 s2 s3 s4 s5 = VK s0 s1 s2 s3 s4 s5 := by
  have big : s0 ≠ 1 → s0 ≠ 2 → s0 ≠ 3 → s0 ≠ 4 → s0 ≠ 5 → s0 ≠ 6 → s0 ≠ 7 → s0 ≠ 8 → s0 ≠ 9 → s0 ≠ 10 → s0 ≠ 11 → In s0 1 11 = false := by
    intros; rw [In_false]; omega
  unfold VS
  by_cases h1 : s0 = 1
  · subst h1; simp [VK, letP, vres, rangeP, impl_Step_valid.fld, In, Bool.and_assoc]
  by_cases h2 : s0 = 2
  · subst h2; simp [VK, letP, vres, rangeP, impl_Step_valid.fld, In, Bool.and_assoc, Bool.and_comm, Bool.and_left_comm]
  by_cases h3 : s0 = 3
  · subst h3; simp [VK, letP, vres, rangeP, impl_Step_valid.fld, In, Bool.and_assoc, Bool.and_comm, Bool.and_left_comm]
  by_cases h4 : s0 = 4
  · subst h4; simp [VK, letP, vres, rangeP, impl_Step_valid.fld, In, Bool.and_assoc, Bool.and_comm, Bool.and_left_comm]
  by_cases h5 : s0 = 5
  · subst h5; simp [VK, letP, vres, rangeP, impl_Step_valid.fld, In, Bool.and_assoc, Bool.and_comm, Bool.and_left_comm]
  by_cases h6 : s0 = 6
  · subst h6; simp [VK, letP, vres, rangeP, impl_Step_valid.fld, In, Bool.and_assoc, Bool.and_comm, Bool.and_left_comm]
  by_cases h7 : s0 = 7
  · subst h7; simp [VK, letP, vres, rangeP, impl_Step_valid.fld, In, Bool.and_assoc, Bool.and_comm, Bool.and_left_comm]
  by_cases h8 : s0 = 8
  · subst h8; simp [VK, letP, vres, rangeP, impl_Step_valid.fld, In, Bool.and_assoc, Bool.and_comm, Bool.and_left_comm]
  by_cases h9 : s0 = 9
  · subst h9; simp [VK, letP, vres, rangeP, impl_Step_valid.fld, In, Bool.and_assoc, Bool.and_comm, Bool.and_left_comm]
  by_cases h10 : s0 = 10
  · subst h10; simp [VK, letP, vres, rangeP, impl_Step_valid.fld, In, Bool.and_assoc, Bool.and_comm, Bool.and_left_comm]
  by_cases h11 : s0 = 11
  · subst h11; simp [VK, letP, vres, rangeP, impl_Step_valid.fld, In, Bool.and_assoc, Bool.and_comm, Bool.and_left_comm]
  · have := big h1 h2 h3 h4 h5 h6 h7 h8 h9 h10 h11
    simp [VK, letP, vres, h1, h2, h3, h4, h5, h6, h7, h8, h9, h10, h11, this]

theorem ranges_ev (s0 s1 s2 s3 s4 s5 L : Int) : Ev (fun k => impl_Step_ranges.f k s0 s1 s2 s3 s4 s5 L) (rangeP s0 L) := by
  have j : ∀ x : Bool, (x = true ↔ (L = 100 ∨ L = 115)) → L ≠ 111 → Ev (fun k => impl_Step_ranges.j0 k L x s0 s1 s2 s3 s4 s5) (rangeP s0 L) := by
    intro x hx h1
    unfold rangeP
    rw [if_neg h1]
    refine Ev.step (fun k => impl_Step_ranges.j0.eq_2 ..) ?_
    by_cases h : x = true
    · refine Ev.pos h ?_; rw [if_pos (hx.1 h)]; exact Ev.now _
    · rw [if_neg (fun h' => h (hx.2 h'))]
      refine Ev.neg h ?_
      by_cases h2 : L = 116
      · refine Ev.pos h2 ?_; rw [if_pos h2]; exact Ev.now _
      refine Ev.neg h2 ?_; rw [if_neg h2]
      by_cases h3 : s0 = 4
      · refine Ev.pos h3 ?_; rw [if_pos h3]; exact Ev.now _
      refine Ev.neg h3 ?_; rw [if_neg h3]
      by_cases h4 : s0 = 5
      · refine Ev.pos h4 ?_; rw [if_pos h4]; exact Ev.now _
      refine Ev.neg h4 ?_; rw [if_neg h4]; exact Ev.now _
  unfold impl_Step_ranges.f
  by_cases h1 : L = 111
  · unfold rangeP; refine Ev.pos h1 ?_; rw [if_pos h1]; exact Ev.now _
  refine Ev.neg h1 ?_
  by_cases h2 : L = 100
  · exact Ev.pos h2 (j true (by simp [h2]) h1)
  · exact Ev.neg h2 (j (L == 115) (by simp [h2]) h1)

theorem valid_loop (s0 s1 s2 s3 s4 s5 : Int) (b : ByteArray) (hb : b.size ≤ 100) : ∀ (Ls : List Int) (i : Nat) (r1 r2 r3 r4 r5 : Int), b.size = i + Ls.length → (∀ j (h : j < Ls.length), bt b ((i + j : Nat) : Int) = Ls[j]) → Ev (fun k => impl_Step_valid.l0 k s0 s1 s2 s3 s4 s5 b r1 r2 r3 r4 r5 (i : Int)) (vres s0 s1 s2 s3 s4 s5 Ls r1 r2 r3 r4 r5)
  | [], i, r1, r2, r3, r4, r5, h, _ => by
    have h : b.size = i := h
    refine Ev.step (fun k => impl_Step_valid.l0.eq_2 ..) (Ev.neg (by omega) (Ev.bindE (impl_in_eq ..) ?_))
    unfold vres
    by_cases hk : In s0 1 11 = true
    · refine Ev.pos hk ?_; rw [hk]; exact Ev.now _
    · refine Ev.neg hk ?_; rw [Bool.eq_false_iff.mpr hk]; exact Ev.now _
  | L :: Ls, i, r1, r2, r3, r4, r5, h, hL => by
    have h : b.size = i + (Ls.length + 1) := h
    have e : bt b (i : Int) = L := hL 0 (by simp)
    refine Ev.step (fun k => impl_Step_valid.l0.eq_2 ..) (Ev.pos (by omega) (Ev.pos (by omega) ?_))
    rw [e]
    refine Ev.bind (ranges_ev s0 s1 s2 s3 s4 s5 L) (Ev.bindE (impl_in_eq ..) ?_)
    unfold vres
    by_cases hk : In (impl_Step_valid.fld L s1 s2 s3 s4 s5) (rangeP s0 L).1 (rangeP s0 L).2 = true
    · refine Ev.pos hk ?_
      rw [hk, w1 i (by omega), Bool.true_and]
      refine valid_loop s0 s1 s2 s3 s4 s5 b hb Ls (i + 1) _ _ _ _ _ (by omega) (fun j hj => ?_)
      have := hL (j + 1) (by simp; omega)
      rw [show i + 1 + j = i + (j + 1) by omega, this]; rfl
    · refine Ev.neg hk ?_; rw [Bool.eq_false_iff.mpr hk]; exact Ev.now _

def strP (s0 : Int) : ByteArray := if s0 = 1 then ⟨#[111, 100, 115]⟩ else if s0 = 2 then ⟨#[111, 100, 105]⟩ else if s0 = 3 ∨ s0 = 4 ∨ s0 = 6 ∨ s0 = 7 then ⟨#[100, 105]⟩ else if s0 = 5 then ⟨#[100, 115, 105]⟩ else if s0 = 8 then ⟨#[116]⟩ else if s0 = 9 ∨ s0 = 10 then ⟨#[100, 115, 116]⟩ else ⟨#[]⟩
theorem fields_ev (s0 : Int) : Ev (fun k => impl_fields.f k s0) (strP s0) := by
  have j : ∀ x : Bool, (x = true ↔ (s0 = 3 ∨ s0 = 4 ∨ s0 = 6 ∨ s0 = 7)) → s0 ≠ 1 → s0 ≠ 2 → Ev (fun k => impl_fields.j0 k s0 x) (strP s0) := by
    intro x hx h1 h2
    unfold strP
    rw [if_neg h1, if_neg h2]
    refine Ev.step (fun k => impl_fields.j0.eq_2 ..) ?_
    by_cases h : x = true
    · refine Ev.pos h ?_; rw [if_pos (hx.1 h)]; exact Ev.now _
    refine Ev.neg h ?_; rw [if_neg (fun h' => h (hx.2 h'))]
    by_cases h5 : s0 = 5
    · refine Ev.pos h5 ?_; rw [if_pos h5]; exact Ev.now _
    refine Ev.neg h5 ?_; rw [if_neg h5]
    by_cases h8 : s0 = 8
    · refine Ev.pos h8 ?_; rw [if_pos h8]; exact Ev.now _
    refine Ev.neg h8 ?_; rw [if_neg h8]
    by_cases h9 : s0 = 9
    · refine Ev.pos h9 ?_; rw [if_pos (Or.inl h9)]; exact Ev.now _
    refine Ev.neg h9 ?_
    by_cases h10 : s0 = 10
    · refine Ev.pos h10 ?_; rw [if_pos (Or.inr h10)]; exact Ev.now _
    refine Ev.neg h10 ?_; rw [if_neg (by omega)]; exact Ev.now _
  unfold impl_fields.f
  by_cases h1 : s0 = 1
  · unfold strP; refine Ev.pos h1 ?_; rw [if_pos h1]; exact Ev.now _
  refine Ev.neg h1 ?_
  by_cases h2 : s0 = 2
  · unfold strP; refine Ev.pos h2 ?_; rw [if_neg h1, if_pos h2]; exact Ev.now _
  refine Ev.neg h2 ?_
  by_cases h3 : s0 = 3
  · exact Ev.pos h3 (j _ (by simp [h3]) h1 h2)
  refine Ev.neg h3 ?_
  by_cases h4 : s0 = 4
  · exact Ev.pos h4 (j _ (by simp [h4]) h1 h2)
  refine Ev.neg h4 ?_
  by_cases h6 : s0 = 6
  · exact Ev.pos h6 (j _ (by simp [h6]) h1 h2)
  exact Ev.neg h6 (j _ (by simp [h3, h4, h6]) h1 h2)

theorem str_let (s0 : Int) : (strP s0).size = (letP s0).length ∧ (strP s0).size ≤ 100 ∧ ∀ j (h : j < (letP s0).length), bt (strP s0) ((0 + j : Nat) : Int) = (letP s0)[j] := by
  have c : ∀ (b : ByteArray) (l : List Int), b.size = l.length → b.size ≤ 100 → (∀ j (h : j < l.length), bt b ((0 + j : Nat) : Int) = l[j]) → b.size = l.length ∧ b.size ≤ 100 ∧ ∀ j (h : j < l.length), bt b ((0 + j : Nat) : Int) = l[j] := fun _ _ a b c => ⟨a, b, c⟩
  unfold strP letP
  by_cases h1 : s0 = 1
  · simp only [h1, if_true]; exact c _ _ rfl (by decide) (by decide)
  simp only [h1, if_false]
  by_cases h2 : s0 = 2
  · simp only [h2, if_true]; exact c _ _ rfl (by decide) (by decide)
  simp only [h2, if_false]
  by_cases h3 : s0 = 3 ∨ s0 = 4 ∨ s0 = 6 ∨ s0 = 7
  · simp only [h3, if_true]; exact c _ _ rfl (by decide) (by decide)
  simp only [h3, if_false]
  by_cases h5 : s0 = 5
  · simp only [h5, if_true]; exact c _ _ rfl (by decide) (by decide)
  simp only [h5, if_false]
  by_cases h8 : s0 = 8
  · simp only [h8, if_true]; exact c _ _ rfl (by decide) (by decide)
  simp only [h8, if_false]
  by_cases h9 : s0 = 9 ∨ s0 = 10
  · simp only [h9, if_true]; exact c _ _ rfl (by decide) (by decide)
  simp only [h9, if_false]
  exact c _ _ rfl (by decide) (by decide)
theorem valid_ev (s0 s1 s2 s3 s4 s5 : Int) : Ev (fun k => impl_Step_valid.f k s0 s1 s2 s3 s4 s5) (VK s0 s1 s2 s3 s4 s5) := by
  obtain ⟨h1, h2, h3⟩ := str_let s0
  rw [← VS_eq]
  unfold impl_Step_valid.f VS
  exact Ev.bind (fields_ev s0) (valid_loop s0 s1 s2 s3 s4 s5 (strP s0) h2 (letP s0) 0 _ _ _ _ _ (by omega) h3)

theorem spec_l2Reg_eq (a : Int) : spec_l2Reg.f a = some (In a 0 5) := by unfold spec_l2Reg.f; rw [spec_l1In_eq]; rfl

def ZeroB (s1 s2 s3 s4 s5 : Int) (a b c d e : Bool) : Bool := (a || s1 == 0) && (b || s2 == 0) && (c || s3 == 0) && (d || s4 == 0) && (e || s5 == 0)
theorem spec_l2Zero_eq (s0 s1 s2 s3 s4 s5 : Int) (a b c d e : Bool) : spec_l2Zero.f s0 s1 s2 s3 s4 s5 a b c d e = some (ZeroB s1 s2 s3 s4 s5 a b c d e) := by
  unfold spec_l2Zero.f ZeroB
  by_cases h1 : s1 = 0 <;> by_cases h2 : s2 = 0 <;> by_cases h3 : s3 = 0 <;> by_cases h4 : s4 = 0 <;> simp only [h1, h2, h3, h4] <;> cases a <;> cases b <;> cases c <;> cases d <;> cases e <;> simp [*]

theorem reg0 : In 0 0 5 = true := by decide
theorem bindsome (x : Bool) : ((some x).bind fun t => some t) = some x := rfl
theorem l2Step_ev (s0 s1 s2 s3 s4 s5 : Int) : Ev (fun k => spec_l2Step.f k s0 s1 s2 s3 s4 s5) (VK s0 s1 s2 s3 s4 s5) := by
  have z : ∀ a b c d e, ((spec_l2Zero.f s0 s1 s2 s3 s4 s5 a b c d e).bind fun t => some t) = some (ZeroB s1 s2 s3 s4 s5 a b c d e) := fun a b c d e => by rw [spec_l2Zero_eq]; rfl
  have r3 : (s3 == 0) = true → In s3 0 5 = true := fun h => by rw [beq_iff_eq] at h; rw [h]; decide
  have r2 : (s2 == 0) = true → In s2 0 5 = true := fun h => by rw [beq_iff_eq] at h; rw [h]; decide
  have j : ∀ x : Bool, (x = !(In s2 0 5 && In s3 0 5)) → Ev (fun k => spec_l2Step.j0 k (In s1 1 10) (In s5 1 19) x s0 s1 s2 s3 s4 s5) (VK s0 s1 s2 s3 s4 s5) := by
    intro x hx
    refine Ev.step (fun k => spec_l2Step.j0.eq_2 ..) ?_
    by_cases hr : (In s2 0 5 && In s3 0 5) = true
    · refine Ev.neg (by rw [hx, hr]; simp) ?_
      obtain ⟨g2, g3⟩ := (Bool.and_eq_true _ _).mp hr
      unfold VK
      by_cases h1 : s0 = 1
      · refine Ev.pos h1 ?_; rw [if_pos h1]
        by_cases ho : In s1 1 10 = true
        · refine Ev.pos ho (Ev.congr (fun k => z ..) (Ev.at_ (Ev.now _) ?_)); rw [ho, g2, g3]; simp [ZeroB]
        · refine Ev.neg ho (Ev.at_ (Ev.now _) ?_); rw [Bool.eq_false_iff.mpr ho]; rfl
      refine Ev.neg h1 ?_; rw [if_neg h1]
      by_cases h2 : s0 = 2
      · refine Ev.pos h2 ?_; rw [if_pos h2]
        by_cases ho : In s1 1 10 = true
        · refine Ev.pos ho (Ev.bindE (spec_l1In_eq ..) ?_)
          by_cases hi : In s4 0 255 = true
          · refine Ev.pos hi (Ev.congr (fun k => z ..) (Ev.at_ (Ev.now _) ?_)); rw [ho, g2, hi]; simp [ZeroB]
          · refine Ev.neg hi (Ev.at_ (Ev.now _) ?_); rw [Bool.eq_false_iff.mpr hi]; simp
        · refine Ev.neg ho (Ev.at_ (Ev.now _) ?_); rw [Bool.eq_false_iff.mpr ho]; rfl
      refine Ev.neg h2 ?_; rw [if_neg h2]
      by_cases h3 : s0 = 3
      · rw [if_pos (Or.inl h3)]; refine Ev.pos h3 (Ev.bindE (spec_l1In_eq ..) ?_)
        by_cases hi : In s4 0 255 = true
        · refine Ev.pos hi (Ev.congr (fun k => z ..) (Ev.at_ (Ev.now _) ?_)); rw [g2, hi]; simp [ZeroB]
        · refine Ev.neg hi (Ev.at_ (Ev.now _) ?_); rw [Bool.eq_false_iff.mpr hi]; simp
      refine Ev.neg h3 ?_
      by_cases h4 : s0 = 4
      · rw [if_neg (by omega), if_pos h4]; refine Ev.pos h4 (Ev.bindE (spec_l1In_eq ..) ?_)
        by_cases hi : In s4 256 65535 = true
        · refine Ev.pos hi (Ev.congr (fun k => z ..) (Ev.at_ (Ev.now _) ?_)); rw [g2, hi]; simp [ZeroB]
        · refine Ev.neg hi (Ev.at_ (Ev.now _) ?_); rw [Bool.eq_false_iff.mpr hi]; simp
      refine Ev.neg h4 ?_
      by_cases h5 : s0 = 5
      · rw [if_neg (by omega), if_neg h4, if_pos h5]; refine Ev.pos h5 (Ev.bindE (spec_l1In_eq ..) ?_)
        by_cases hi : In s4 0 7 = true
        · refine Ev.pos hi (Ev.congr (fun k => z ..) (Ev.at_ (Ev.now _) ?_)); rw [g2, g3, hi]; simp [ZeroB]
        · refine Ev.neg hi (Ev.at_ (Ev.now _) ?_); rw [Bool.eq_false_iff.mpr hi]; simp
      refine Ev.neg h5 ?_
      have j1 : ∀ x : Bool, (x = true ↔ (s0 = 6 ∨ s0 = 7)) → Ev (fun k => spec_l2Step.j1 k (In s5 1 19) s0 x s0 s1 s2 s3 s4 s5) (if s0 = 3 ∨ s0 = 6 ∨ s0 = 7 then (s1 == 0) && In s2 0 5 && (s3 == 0) && In s4 0 255 && (s5 == 0)
          else if s0 = 4 then (s1 == 0) && In s2 0 5 && (s3 == 0) && In s4 256 65535 && (s5 == 0)
          else if s0 = 5 then (s1 == 0) && In s2 0 5 && In s3 0 5 && In s4 0 7 && (s5 == 0)
          else if s0 = 8 then (s1 == 0) && (s2 == 0) && (s3 == 0) && (s4 == 0) && In s5 1 19
          else if s0 = 9 ∨ s0 = 10 then (s1 == 0) && In s2 0 5 && In s3 0 5 && (s4 == 0) && In s5 1 19
          else if s0 = 11 then (s1 == 0) && (s2 == 0) && (s3 == 0) && (s4 == 0) && (s5 == 0)
          else false) := by
        intro x hx
        refine Ev.step (fun k => spec_l2Step.j1.eq_2 ..) ?_
        by_cases h67 : s0 = 6 ∨ s0 = 7
        · rw [if_pos (Or.inr h67)]; refine Ev.pos (hx.2 h67) (Ev.bindE (spec_l1In_eq ..) ?_)
          by_cases hi : In s4 0 255 = true
          · refine Ev.pos hi (Ev.congr (fun k => z ..) (Ev.at_ (Ev.now _) ?_)); rw [g2, hi]; simp [ZeroB]
          · refine Ev.neg hi (Ev.at_ (Ev.now _) ?_); rw [Bool.eq_false_iff.mpr hi]; simp
        rw [if_neg (show ¬ (s0 = 3 ∨ s0 = 6 ∨ s0 = 7) by omega), if_neg h4, if_neg h5]
        refine Ev.neg (fun h => h67 (hx.1 h)) ?_
        by_cases h8 : s0 = 8
        · refine Ev.pos h8 ?_; rw [if_pos h8]
          by_cases ht : In s5 1 19 = true
          · refine Ev.pos ht (Ev.congr (fun k => z ..) (Ev.at_ (Ev.now _) ?_)); rw [ht]; simp [ZeroB]
          · refine Ev.neg ht (Ev.at_ (Ev.now _) ?_); rw [Bool.eq_false_iff.mpr ht]; simp
        refine Ev.neg h8 ?_; rw [if_neg h8]
        have j2 : ∀ x : Bool, (x = true ↔ (s0 = 9 ∨ s0 = 10)) → Ev (fun k => spec_l2Step.j2 k (In s5 1 19) x s0 s1 s2 s3 s4 s5) (if s0 = 9 ∨ s0 = 10 then (s1 == 0) && In s2 0 5 && In s3 0 5 && (s4 == 0) && In s5 1 19
            else if s0 = 11 then (s1 == 0) && (s2 == 0) && (s3 == 0) && (s4 == 0) && (s5 == 0)
            else false) := by
          intro x hx
          refine Ev.step (fun k => spec_l2Step.j2.eq_2 ..) ?_
          by_cases h9 : s0 = 9 ∨ s0 = 10
          · refine Ev.pos (hx.2 h9) ?_; rw [if_pos h9]
            by_cases ht : In s5 1 19 = true
            · refine Ev.pos ht (Ev.congr (fun k => z ..) (Ev.at_ (Ev.now _) ?_)); rw [ht, g2, g3]; simp [ZeroB]
            · refine Ev.neg ht (Ev.at_ (Ev.now _) ?_); rw [Bool.eq_false_iff.mpr ht]; simp
          refine Ev.neg (fun h => h9 (hx.1 h)) ?_; rw [if_neg h9]
          by_cases h11 : s0 = 11
          · refine Ev.pos h11 ?_; rw [if_pos h11]; refine Ev.congr (fun k => z ..) (Ev.at_ (Ev.now _) ?_); simp [ZeroB]
          · refine Ev.neg h11 ?_; rw [if_neg h11]; exact Ev.now _
        by_cases h9 : s0 = 9
        · exact Ev.pos h9 (j2 _ (by simp [h9]))
        · exact Ev.neg h9 (j2 _ (by simp [h9]))
      by_cases h6 : s0 = 6
      · exact Ev.pos h6 (j1 _ (by simp [h6]))
      · exact Ev.neg h6 (j1 _ (by simp [h6]))
    · refine Ev.pos (by rw [hx, Bool.eq_false_iff.mpr hr]; rfl) (Ev.at_ (Ev.now _) ?_)
      have hr := Bool.eq_false_iff.mpr hr
      have hf : ∀ a b c d e : Bool, (a && (In s2 0 5) && (In s3 0 5) && d && e) = false := fun a b c d e => by rw [Bool.and_assoc a, hr]; simp
      unfold VK
      have q3 : In s3 0 5 = false → (s3 == 0) = false := fun h => by cases h' : (s3 == 0) with | false => rfl | true => rw [r3 h'] at h; cases h
      have q2 : In s2 0 5 = false → (s2 == 0) = false := fun h => by cases h' : (s2 == 0) with | false => rfl | true => rw [r2 h'] at h; cases h
      rcases (Bool.and_eq_false_iff).mp hr with h | h
      · simp [h, q2 h]
      · simp [h, q3 h]
  unfold spec_l2Step.f
  refine Ev.bindE (spec_l1In_eq ..) (Ev.bindE (spec_l1In_eq ..) (Ev.bindE (spec_l2Reg_eq ..) ?_))
  by_cases h2 : In s2 0 5 = true
  · exact Ev.pos h2 (Ev.bindE (spec_l2Reg_eq ..) (j _ (by rw [h2]; rfl)))
  · exact Ev.neg h2 (j _ (by rw [Bool.eq_false_iff.mpr h2]; rfl))

/-- A step is valid and its jump stays inside the program. -/
def stepOk (n : Nat) (i : Nat) (s : S51) : Bool := VK s.f0 s.f1 s.f2 s.f3 s.f4 s.f5 && !(decide (s.f5 > 0) && decide (wrap64 (wrap64 ((i : Int) + s.f5) + 1) ≥ (n : Int)))
def allOk (n : Nat) (l : List S51) : Nat → Nat → Bool
  | 0, _ => true
  | d + 1, i => stepOk n i (l.getD i z51) && allOk n l d (i + 1)
def lastOk (l : List S51) : Bool := In (l.length : Int) 1 20 && ((rd_T51 l ((l.length : Int) - 1)).f0 == 11)
def GoodP (l : List S51) : Bool := allOk l.length l l.length 0 && lastOk l
theorem Stepb_getD (l : List S51) (i : Nat) (h : i < l.length) : l.getD i z51 = l[i] := by simp [List.getD, h]
/-- A valid step bears a jump just where its kind jumps. -/
theorem VK_jump {s0 s1 s2 s3 s4 s5 : Int} (h : VK s0 s1 s2 s3 s4 s5 = true) : ((s0 = 8 ∨ s0 = 9 ∨ s0 = 10) → 1 ≤ s5 ∧ s5 ≤ 19) ∧ (¬ (s0 = 8 ∨ s0 = 9 ∨ s0 = 10) → s5 = 0) := by
  unfold VK at h
  refine ⟨fun hj => ?_, fun hj => ?_⟩
  · rw [if_neg (by omega), if_neg (by omega), if_neg (by omega), if_neg (by omega), if_neg (by omega)] at h
    by_cases h8 : s0 = 8
    · rw [if_pos h8] at h; simp only [Bool.and_eq_true] at h; exact In_true.1 h.2
    · rw [if_neg h8, if_pos (by omega)] at h; simp only [Bool.and_eq_true] at h; exact In_true.1 h.2
  · by_cases h1 : s0 = 1
    · rw [if_pos h1] at h; simp only [Bool.and_eq_true, beq_iff_eq] at h; exact h.2
    rw [if_neg h1] at h
    by_cases h2 : s0 = 2
    · rw [if_pos h2] at h; simp only [Bool.and_eq_true, beq_iff_eq] at h; exact h.2
    rw [if_neg h2] at h
    by_cases h3 : s0 = 3 ∨ s0 = 6 ∨ s0 = 7
    · rw [if_pos h3] at h; simp only [Bool.and_eq_true, beq_iff_eq] at h; exact h.2
    rw [if_neg h3] at h
    by_cases h4 : s0 = 4
    · rw [if_pos h4] at h; simp only [Bool.and_eq_true, beq_iff_eq] at h; exact h.2
    rw [if_neg h4] at h
    by_cases h5 : s0 = 5
    · rw [if_pos h5] at h; simp only [Bool.and_eq_true, beq_iff_eq] at h; exact h.2
    rw [if_neg h5, if_neg (by omega), if_neg (by omega)] at h
    by_cases h11 : s0 = 11
    · rw [if_pos h11] at h; simp only [Bool.and_eq_true, beq_iff_eq] at h; exact h.2
    · rw [if_neg h11] at h; cases h
theorem jumps_ev (s0 s1 s2 s3 s4 s5 : Int) : impl_Step_jumps.f s0 s1 s2 s3 s4 s5 = some (decide (s0 = 8 ∨ s0 = 9 ∨ s0 = 10)) := by
  unfold impl_Step_jumps.f
  by_cases h8 : s0 = 8
  · rw [if_pos h8]; simp [h8]
  rw [if_neg h8]
  by_cases h9 : s0 = 9
  · rw [if_pos h9]; simp [h9]
  rw [if_neg h9]
  by_cases h10 : s0 = 10 <;> simp [h8, h9, h10]

theorem goodP_spec_loop (l : List S51) (hl : l.length ≤ 1099511627776) : ∀ (d i : Nat), i + d = l.length → Ev (fun k => spec_GoodProgram.l0 k l l (l.length : Int) (i : Int)) (allOk l.length l d i && lastOk l)
  | 0, i, h => by
    refine Ev.step (fun k => spec_GoodProgram.l0.eq_2 ..) (Ev.neg (by omega) (Ev.bindE (spec_l1In_eq ..) ?_))
    unfold allOk lastOk
    by_cases hk : In (l.length : Int) 1 20 = true
    · have := In_true.1 hk
      refine Ev.pos hk ?_
      rw [wrap_id _ (by omega) (by omega)]
      refine Ev.pos (by omega) (Ev.pos (by omega) (Ev.at_ (Ev.now _) ?_))
      rw [hk]; simp
    · refine Ev.neg hk (Ev.at_ (Ev.now _) ?_)
      rw [Bool.eq_false_iff.mpr hk]; simp
  | d + 1, i, h => by
    have ih := goodP_spec_loop l hl d (i + 1) (by omega)
    refine Ev.step (fun k => spec_GoodProgram.l0.eq_2 ..) (Ev.pos (by omega) (Ev.pos (by omega) (Ev.pos (by omega) ?_)))
    unfold allOk stepOk
    rw [Stepb_nat l i (by omega), Stepb_getD l i (by omega), w1 i (by omega)]
    refine Ev.bind (l2Step_ev ..) ?_
    by_cases hv : VK l[i].f0 l[i].f1 l[i].f2 l[i].f3 l[i].f4 l[i].f5 = true
    · refine Ev.pos hv ?_
      rw [hv]
      by_cases hp : l[i].f5 > 0
      · refine Ev.pos hp ?_
        by_cases hg : wrap64 (wrap64 ((i : Int) + l[i].f5) + 1) ≥ (l.length : Int)
        · refine Ev.pos hg (Ev.at_ (Ev.now _) ?_)
          rw [decide_eq_true hp, decide_eq_true hg]; simp
        · refine Ev.neg hg (Ev.at_ ih ?_)
          rw [decide_eq_true hp, decide_eq_false hg]; simp
      · refine Ev.neg hp (Ev.at_ ih ?_)
        rw [decide_eq_false hp]; simp
    · refine Ev.neg hv (Ev.at_ (Ev.now _) ?_)
      rw [Bool.eq_false_iff.mpr hv]; simp
theorem goodP_impl_loop (l : List S51) (hl : l.length ≤ 1099511627776) : ∀ (d i : Nat), i + d = l.length → Ev (fun k => impl_GoodProgram.l0 k l l (l.length : Int) (i : Int)) (allOk l.length l d i)
  | 0, i, h => Ev.step (fun k => impl_GoodProgram.l0.eq_2 ..) (Ev.neg (by omega) (Ev.now _))
  | d + 1, i, h => by
    have ih := goodP_impl_loop l hl d (i + 1) (by omega)
    refine Ev.step (fun k => impl_GoodProgram.l0.eq_2 ..) (Ev.pos (by omega) (Ev.pos (by omega) (Ev.pos (by omega) ?_)))
    unfold allOk stepOk
    rw [Stepb_nat l i (by omega), Stepb_getD l i (by omega), w1 i (by omega)]
    refine Ev.bind (valid_ev ..) ?_
    by_cases hv : VK l[i].f0 l[i].f1 l[i].f2 l[i].f3 l[i].f4 l[i].f5 = true
    · obtain ⟨j1, j2⟩ := VK_jump hv
      refine Ev.pos hv (Ev.bindE (jumps_ev ..) ?_)
      rw [hv]
      by_cases hj : l[i].f0 = 8 ∨ l[i].f0 = 9 ∨ l[i].f0 = 10
      · have hp : l[i].f5 > 0 := by have := j1 hj; omega
        refine Ev.pos (decide_eq_true hj) ?_
        by_cases hg : wrap64 (wrap64 ((i : Int) + l[i].f5) + 1) ≥ (l.length : Int)
        · refine Ev.pos hg (Ev.at_ (Ev.now _) ?_)
          rw [decide_eq_true hp, decide_eq_true hg]; simp
        · refine Ev.neg hg (Ev.at_ ih ?_)
          rw [decide_eq_true hp, decide_eq_false hg]; simp
      · have hp : ¬ l[i].f5 > 0 := by have := j2 hj; omega
        refine Ev.neg (by rw [decide_eq_false hj]; simp) (Ev.at_ ih ?_)
        rw [decide_eq_false hp]; simp
    · refine Ev.neg hv (Ev.at_ (Ev.now _) ?_)
      rw [Bool.eq_false_iff.mpr hv]; simp
theorem goodP_spec (l : List S51) (hl : l.length ≤ 1099511627776) : Ev (fun k => spec_GoodProgram.f k l) (GoodP l) := goodP_spec_loop l hl l.length 0 (by omega)
theorem goodP_impl (l : List S51) (hl : l.length ≤ 1099511627776) : Ev (fun k => impl_GoodProgram.f k l) (GoodP l) := by
  unfold impl_GoodProgram.f GoodP
  refine Ev.bindE (impl_in_eq ..) ?_
  by_cases hk : In (l.length : Int) 1 20 = true
  · have hk' := In_true.1 hk
    refine Ev.pos hk ?_
    rw [wrap_id _ (by omega) (by omega)]
    refine Ev.pos (by omega) (Ev.pos (by omega) (Ev.step (fun k => impl_GoodProgram.j0.eq_2 ..) ?_))
    unfold lastOk
    rw [hk]
    by_cases h11 : (rd_T51 l ((l.length : Int) - 1)).f0 = 11
    · refine Ev.neg (by rw [h11]; simp) (Ev.at_ (goodP_impl_loop l hl l.length 0 (by omega)) ?_)
      rw [h11]; simp
    · refine Ev.pos (by simp [h11]) (Ev.at_ (Ev.now _) ?_)
      simp [h11]
  · refine Ev.neg hk (Ev.step (fun k => impl_GoodProgram.j0.eq_2 ..) (Ev.pos rfl (Ev.at_ (Ev.now _) ?_)))
    unfold lastOk
    rw [Bool.eq_false_iff.mpr hk]; simp
/-- What a valid program's steps lead to lies in it. -/
theorem allOk_at {n : Nat} {l : List S51} : ∀ (d i : Nat), allOk n l d i = true → ∀ j, i ≤ j → j < i + d → stepOk n j (l.getD j z51) = true
  | 0, i, _, j, h1, h2 => by omega
  | d + 1, i, h, j, h1, h2 => by
    unfold allOk at h
    rw [Bool.and_eq_true] at h
    by_cases e : i = j
    · subst e; exact h.1
    · exact allOk_at d (i + 1) h.2 j (by omega) (by omega)
theorem GoodP_at {l : List S51} (h : GoodP l = true) : (1 ≤ l.length ∧ l.length ≤ 20) ∧ ∀ i (hi : i < l.length), ((l[i].f0 = 8 ∨ l[i].f0 = 9 ∨ l[i].f0 = 10) → 1 ≤ l[i].f5 ∧ (i : Int) + l[i].f5 + 1 < l.length) ∧ (l[i].f0 ≠ 11 → (i : Int) + 1 < l.length) := by
  unfold GoodP lastOk at h
  simp only [Bool.and_eq_true, beq_iff_eq] at h
  obtain ⟨h1, h2, h3⟩ := h
  have h2 := In_true.1 h2
  refine ⟨by omega, fun i hi => ?_⟩
  have h4 := allOk_at l.length 0 h1 i (by omega) (by omega)
  rw [Stepb_getD l i hi] at h4
  unfold stepOk at h4
  simp only [Bool.and_eq_true, Bool.not_eq_true', Bool.and_eq_false_iff, decide_eq_false_iff_not] at h4
  obtain ⟨v, h5⟩ := h4
  obtain ⟨j1, _⟩ := VK_jump v
  refine ⟨fun hj => ?_, fun hk => ?_⟩
  · have := j1 hj
    refine ⟨by omega, ?_⟩
    rcases h5 with h5 | h5
    · omega
    · rw [wrap_id ((i : Int) + l[i].f5) (by omega) (by omega), wrap_id _ (by omega) (by omega)] at h5; omega
  · have e : (l.length : Int) - 1 = ((l.length - 1 : Nat) : Int) := by omega
    rw [e, Stepb_nat l (l.length - 1) (by omega)] at h3
    by_cases ei : i = l.length - 1
    · subst ei; exact absurd h3 hk
    · omega

theorem nexts_eq (l : List S51) (i : Int) : impl_nexts.f l i = spec_l2Nexts.f l i := rfl
theorem nexts_ev (l : List S51) (h : GoodP l = true) (i : Nat) (hi : i < l.length) : ∃ t, spec_l2Nexts.f l (i : Int) = some t ∧ t.length ≤ 2 ∧ ∀ j (hj : j < t.length), 0 ≤ t[j] ∧ t[j] < (l.length : Int) := by
  obtain ⟨hn, h⟩ := GoodP_at h
  obtain ⟨h1, h2⟩ := h i hi
  unfold spec_l2Nexts.f
  rw [if_pos (by omega), if_pos (by omega), Stepb_nat l i hi]
  by_cases h11 : l[i].f0 = 11
  · rw [if_pos h11]; exact ⟨_, rfl, by simp, fun j hj => by simp at hj⟩
  have h2 := h2 h11
  have e1 : wrap64 ((i : Int) + 1) = (i : Int) + 1 := wrap_id _ (by omega) (by omega)
  rw [if_neg h11, e1]
  have two : ∀ a b : Int, 0 ≤ a → a < l.length → 0 ≤ b → b < l.length → ∃ t, some ([a, b] : List Int) = some t ∧ t.length ≤ 2 ∧ ∀ j (hj : j < t.length), 0 ≤ t[j] ∧ t[j] < (l.length : Int) := by
    intro a b ha ha' hb hb'
    refine ⟨_, rfl, by simp, fun j hj => ?_⟩
    match j, hj with
    | 0, _ => exact ⟨ha, ha'⟩
    | 1, _ => exact ⟨hb, hb'⟩
  have one : ∀ a : Int, 0 ≤ a → a < l.length → ∃ t, some ([a] : List Int) = some t ∧ t.length ≤ 2 ∧ ∀ j (hj : j < t.length), 0 ≤ t[j] ∧ t[j] < (l.length : Int) := by
    intro a ha ha'
    refine ⟨_, rfl, by simp, fun j hj => ?_⟩
    match j, hj with
    | 0, _ => exact ⟨ha, ha'⟩
  by_cases h8 : l[i].f0 = 8
  · have := h1 (Or.inl h8)
    rw [if_pos h8, wrap_id ((i : Int) + l[i].f5) (by omega) (by omega), wrap_id _ (by omega) (by omega)]
    exact one _ (by omega) (by omega)
  rw [if_neg h8]
  by_cases h9 : l[i].f0 = 9
  · have := h1 (Or.inr (Or.inl h9))
    rw [if_pos h9, wrap_id ((i : Int) + l[i].f5) (by omega) (by omega), wrap_id _ (by omega) (by omega)]
    exact two _ _ (by omega) (by omega) (by omega) (by omega)
  rw [if_neg h9]
  by_cases h10 : l[i].f0 = 10
  · have := h1 (Or.inr (Or.inr h10))
    rw [if_pos h10, wrap_id ((i : Int) + l[i].f5) (by omega) (by omega), wrap_id _ (by omega) (by omega)]
    exact two _ _ (by omega) (by omega) (by omega) (by omega)
  rw [if_neg h10]
  exact one _ (by omega) (by omega)

def Same1 (g : Nat → Option (Int × Bool)) (f : Nat → Option Int) : Prop := ∃ r, Ev g (r, true) ∧ Ev f r
theorem wayCount_inner (l : List S51) (a z : Int) (i : Nat) (t : List Int) (hi : i < l.length) (ht2 : t.length ≤ 2) (ht : ∀ j (hj : j < t.length), 0 ≤ t[j] ∧ t[j] < (l.length : Int))
    (cont : ∀ ways : List Int, ways.length = l.length → Same1 (fun k => spec_WayCount.l0 k l a ways z (wrap64 ((i : Int) + 1))) (fun k => impl_wayCount.l0 k l a (-1) ways z (wrap64 ((i : Int) + 1)))) :
    ∀ (d j : Nat) (ways : List Int), j + d = t.length → ways.length = l.length → Same1 (fun k => spec_WayCount.l1 k l a ways (i : Int) z (i : Int) t (t.length : Int) (j : Int)) (fun k => impl_wayCount.l1 k l a (-1) ways (i : Int) z (i : Int) t (t.length : Int) (j : Int))
  | 0, j, ways, h, hw => by
    obtain ⟨r, h1, h2⟩ := cont ways hw
    exact ⟨r, Ev.step (fun k => spec_WayCount.l1.eq_2 ..) (Ev.neg (by omega) h1), Ev.step (fun k => impl_wayCount.l1.eq_2 ..) (Ev.neg (by omega) h2)⟩
  | d + 1, j, ways, h, hw => by
    have hj := ht j (by omega)
    obtain ⟨r, h1, h2⟩ := wayCount_inner l a z i t hi ht2 ht cont d (j + 1) (ways.set (t[j]'(by omega) : Int).toNat (wrap64 (rd ways (t[j]'(by omega)) + rd ways (i : Int)))) (by omega) (by simpa using hw)
    refine ⟨r, Ev.step (fun k => spec_WayCount.l1.eq_2 ..) ?_, Ev.step (fun k => impl_wayCount.l1.eq_2 ..) ?_⟩
    · rw [rd_nat t j (by omega), w1 j (by omega)]
      exact Ev.pos (by omega) (Ev.pos (by omega) (Ev.pos (by omega) (Ev.pos (by omega) (Ev.pos (by omega) (Ev.pos (by omega) (Ev.pos (by omega) h1))))))
    · rw [rd_nat t j (by omega), w1 j (by omega)]
      exact Ev.pos (by omega) (Ev.pos (by omega) (Ev.pos (by omega) (Ev.pos (by omega) (Ev.pos (by omega) (Ev.pos (by omega) (Ev.pos (by omega) h2))))))
theorem wayCount_outer (l : List S51) (a : Int) (hg : GoodP l = true) (ha : 0 ≤ a ∧ a < l.length) : ∀ (d i : Nat) (ways : List Int), i + d = l.length → ways.length = l.length → Same1 (fun k => spec_WayCount.l0 k l a ways (l.length : Int) (i : Int)) (fun k => impl_wayCount.l0 k l a (-1) ways (l.length : Int) (i : Int))
  | 0, i, ways, h, hw => ⟨rd ways a, Ev.step (fun k => spec_WayCount.l0.eq_2 ..) (Ev.neg (by omega) (Ev.pos (by omega) (Ev.pos (by omega) (Ev.now _)))), Ev.step (fun k => impl_wayCount.l0.eq_2 ..) (Ev.neg (by omega) (Ev.pos (by omega) (Ev.pos (by omega) (Ev.now _))))⟩
  | d + 1, i, ways, h, hw => by
    have hl := (GoodP_at hg).1
    obtain ⟨t, e, t2, ht⟩ := nexts_ev l hg i (by omega)
    obtain ⟨r, h1, h2⟩ := wayCount_inner l a (l.length : Int) i t (by omega) t2 ht (fun ways' hw' => by rw [w1 i (by omega)]; exact wayCount_outer l a hg ha d (i + 1) ways' (by omega) hw') t.length 0 ways (by omega) hw
    refine ⟨r, Ev.step (fun k => spec_WayCount.l0.eq_2 ..) (Ev.pos (by omega) (Ev.bindE e h1)), Ev.step (fun k => impl_wayCount.l0.eq_2 ..) (Ev.pos (by omega) (Ev.neg (by omega) ?_))⟩
    exact Ev.step (fun k => impl_wayCount.j1.eq_2 ..) (Ev.bindE ((nexts_eq l i).trans e) h2)

theorem wayCount_both (l : List S51) (a : Int) (hl : l.length ≤ 1048576) : Both (fun _ => True) (fun k => spec_WayCount.f k l a) (fun k => impl_WayCount.f k l a) := by
  have hs : Ev (fun k => spec_l11There.f k l a) (GoodP l && In a 0 ((l.length : Int) - 1)) := by
    unfold spec_l11There.f
    refine Ev.bind (goodP_spec l (by omega)) ?_
    by_cases hg : GoodP l = true
    · refine Ev.pos hg ?_
      rw [hg]
      by_cases h0 : a ≥ 0
      · refine Ev.pos h0 (Ev.at_ (Ev.now _) ?_)
        by_cases h1 : a < (l.length : Int)
        · rw [decide_eq_true h1, In_true.2 (by omega)]; rfl
        · rw [decide_eq_false h1, In_false.2 (by omega)]; rfl
      · refine Ev.neg h0 (Ev.at_ (Ev.now _) ?_)
        rw [In_false.2 (by omega)]; rfl
    · refine Ev.neg hg (Ev.at_ (Ev.now _) ?_); rw [Bool.eq_false_iff.mpr hg]; rfl
  have hi : Ev (fun k => impl_isStep.f k l a) (GoodP l && In a 0 ((l.length : Int) - 1)) := by
    unfold impl_isStep.f
    refine Ev.bind (goodP_impl l (by omega)) ?_
    by_cases hg : GoodP l = true
    · refine Ev.pos hg ?_
      rw [wrap_id _ (by omega) (by omega)]
      refine Ev.bindE (impl_in_eq ..) (Ev.at_ (Ev.now _) ?_)
      rw [hg]; rfl
    · refine Ev.neg hg (Ev.at_ (Ev.now _) ?_); rw [Bool.eq_false_iff.mpr hg]; rfl
  unfold spec_WayCount.f impl_WayCount.f
  refine Both.bindL hs (Both.bindR hi (Both.ite (fun h => ?_) (fun _ => Both.now _ trivial)))
  rw [Bool.and_eq_true] at h
  have hn := (GoodP_at h.1).1
  have ha := In_true.1 h.2
  obtain ⟨r, h1, h2⟩ := wayCount_outer l a h.1 ⟨by omega, by omega⟩ l.length 0 ((List.replicate ((l.length : Int) : Int).toNat 0 : List Int).set (0 : Int).toNat 1) (by omega) (by simp)
  refine ⟨(r, true), ?_, ?_, trivial⟩
  · exact Ev.pos (by omega) (Ev.pos (by omega) (Ev.bindE rfl (Ev.pos (by simp; omega) h1)))
  · refine Ev.bind ?_ (Ev.now _)
    unfold impl_wayCount.f
    exact Ev.pos (by omega) (Ev.pos (by omega) (Ev.bindE rfl (Ev.pos (by simp; omega) h2)))

theorem FnExactWayCount : laws_FnExactWayCount.Pure := by
  intro l a hl _
  refine Ev.rounds ?_
  unfold laws_FnExactWayCount.f
  by_cases hb : l.length ≤ 1048576
  · have hb' : (l.map cvStep).length ≤ 1048576 := by simpa using hb
    obtain ⟨⟨x, y⟩, h1, h2, _⟩ := wayCount_both (l.map cvStep) a hb'
    have ht := toStepS_ev l hb
    have hg := eqStepS_self (l.map cvStep) (by omega)
    refine Ev.bindE (szStepS_ok l _ (by omega) (by omega)) <| Ev.neg (by omega) <| Ev.bind ht <| Ev.bind h1 <| Ev.bind ht <| Ev.bind h2 <| Ev.pos rfl ?_
    exact Ev.step (fun k => laws_FnExactWayCount.j0.eq_2 ..) (Ev.neg (by simp) <| Ev.bind ht <| Ev.bind hg <| Ev.pos rfl (Ev.now _))
  · exact Ev.bindE (szStepS_big l _ (by omega) (by omega) (by omega) hl.1) (Ev.pos (by omega) (Ev.now _))

end Go.Proofs.Ytcmhkgpalfljbaa.Pure
