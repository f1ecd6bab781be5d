import Derived.Test.YtpndhlcbfobelaaPDXx10
import Derived.Test.YtpndhlcbfobelaaPDXx11
import Derived.Test.YtpndhlcbfobelaaPDXx12
import Derived.Test.YtpndhlcbfobelaaPDXx13
import Derived.Test.YtpndhlcbfobelaaPDXx14
import Derived.Test.YtpndhlcbfobelaaPDXx15
import Derived.Test.YtpndhlcbfobelaaPDXx16
import Derived.Test.YtpndhlcbfobelaaPDXx17
import Derived.Test.YtpndhlcbfobelaaPDXx18
import Derived.Test.YtpndhlcbfobelaaPDXx2
import Derived.Test.YtpndhlcbfobelaaPDXx3
import Derived.Test.YtpndhlcbfobelaaPDXx4
import Derived.Test.YtpndhlcbfobelaaPDXx5
import Derived.Test.YtpndhlcbfobelaaPDXx6
import Derived.Test.YtpndhlcbfobelaaPDXx7
import Derived.Test.YtpndhlcbfobelaaPDXx8
import Derived.Test.YtpndhlcbfobelaaPDXx9
namespace Go.Proofs.Ytpndhlcbfobelaa.Pure
open Go Go.RowKit Go.Proofs.Ytpndhlcbfobelaa.PDX Go.Proofs.YtpndhlcbfobelaaW.PrintWords Go.Proofs.YtpndhlcbfobelaaW.PrintLast Go.Proofs.YtpndhlcbfobelaaW.PrintMore
set_option linter.unusedVariables false
set_option linter.unusedSimpArgs false
def In (a lo hi : Int) : Bool := decide (lo ≤ a) && decide (a ≤ hi)
theorem In_true {a lo hi : Int} : In a lo hi = true ↔ lo ≤ a ∧ a ≤ hi := by simp [In]
theorem In_ite {a lo hi : Int} : (if a ≥ lo then some (decide (a ≤ hi)) else some false) = some (In a lo hi) := by
  unfold In; by_cases h : lo ≤ a <;> simp [h]
theorem spec_l1In_eq (a b c : Int) : spec_l1In.f a b c = some (In a b c) := by unfold spec_l1In.f; exact In_ite
theorem impl_in_eq (a b c : Int) : impl_in.f a b c = some (In a b c) := by unfold impl_in.f; exact In_ite
def andn (a b : Nat) : Nat := a ^^^ (a &&& b)
theorem testBit_andn (a b i : Nat) : (andn a b).testBit i = (a.testBit i && !b.testBit i) := by
  unfold andn; rw [Nat.testBit_xor, Nat.testBit_and]; cases a.testBit i <;> cases b.testBit i <;> rfl
theorem andn_le (a b : Nat) : andn a b ≤ a := by
  have h : andn a b &&& a = andn a b := by
    apply Nat.eq_of_testBit_eq; intro i; rw [Nat.testBit_and, testBit_andn]; cases a.testBit i <;> cases b.testBit i <;> rfl
  rw [← h]; exact Nat.and_le_right
theorem wrap_i64_nat (n : Nat) (h : n < 9223372036854775808) : IntKind.i64.wrap (n : Int) = n := by
  rw [IntKind.wrap_i64]; omega
theorem ofInt_nat (n : Nat) : BitVec.ofInt 64 (n : Int) = BitVec.ofNat 64 n := BitVec.ofInt_natCast 64 n
theorem bits_and (a b : Nat) (ha : a < 9223372036854775808) (hb : b < 9223372036854775808) : Go.bits .and .i64 a b = ((a &&& b : Nat) : Int) := by
  show IntKind.i64.wrap (((BitVec.ofInt 64 (a : Int)) &&& (BitVec.ofInt 64 (b : Int))).toNat : Int) = _
  rw [ofInt_nat, ofInt_nat, BitVec.toNat_and, BitVec.toNat_ofNat, BitVec.toNat_ofNat, Nat.mod_eq_of_lt (by omega), Nat.mod_eq_of_lt (by omega)]
  exact wrap_i64_nat _ (Nat.lt_of_le_of_lt Nat.and_le_left ha)
theorem or_lt63 {a b : Nat} (ha : a < 9223372036854775808) (hb : b < 9223372036854775808) : a ||| b < 9223372036854775808 := Nat.or_lt_two_pow (n := 63) ha hb
theorem bits_or (a b : Nat) (ha : a < 9223372036854775808) (hb : b < 9223372036854775808) : Go.bits .or .i64 a b = ((a ||| b : Nat) : Int) := by
  show IntKind.i64.wrap (((BitVec.ofInt 64 (a : Int)) ||| (BitVec.ofInt 64 (b : Int))).toNat : Int) = _
  rw [ofInt_nat, ofInt_nat, BitVec.toNat_or, BitVec.toNat_ofNat, BitVec.toNat_ofNat, Nat.mod_eq_of_lt (by omega), Nat.mod_eq_of_lt (by omega)]
  exact wrap_i64_nat _ (or_lt63 ha hb)
theorem bits_andNot (a b : Nat) (ha : a < 9223372036854775808) (hb : b < 9223372036854775808) : Go.bits .andNot .i64 a b = ((andn a b : Nat) : Int) := by
  show IntKind.i64.wrap (((BitVec.ofInt 64 (a : Int)) &&& ~~~ (BitVec.ofInt 64 (b : Int))).toNat : Int) = _
  rw [ofInt_nat, ofInt_nat]
  have h : (BitVec.ofNat 64 a &&& ~~~ BitVec.ofNat 64 b).toNat = andn a b := by
    apply Nat.eq_of_testBit_eq; intro i
    rw [testBit_andn]
    by_cases hi : i < 64
    · rw [BitVec.testBit_toNat, BitVec.getLsbD_and, BitVec.getLsbD_not, BitVec.getLsbD_ofNat, BitVec.getLsbD_ofNat]
      simp [hi]
    · have h1 : a.testBit i = false := Nat.testBit_lt_two_pow (Nat.lt_of_lt_of_le ha (by have := Nat.pow_le_pow_right (show 0 < 2 by decide) (show 63 ≤ i by omega); omega))
      rw [h1, BitVec.testBit_toNat, BitVec.getLsbD_of_ge _ _ (by omega)]; rfl
  rw [h]
  exact wrap_i64_nat _ (Nat.lt_of_le_of_lt (andn_le a b) ha)
theorem Ev.pos {α : Type} {c : Prop} [Decidable c] {A B : Nat → Option α} {r : α} (h : c) (e : Ev A r) : Ev (fun k => if c then A k else B k) r := Ev.congr (fun _ => if_pos h) e
theorem Ev.neg {α : Type} {c : Prop} [Decidable c] {A B : Nat → Option α} {r : α} (h : ¬ c) (e : Ev B r) : Ev (fun k => if c then A k else B k) r := Ev.congr (fun _ => if_neg h) e
theorem Ev.bindE {α β : Type} {g : Option α} {f : Nat → α → Option β} {a : α} {r : β} (h : g = some a) (k : Ev (fun n => f n a) r) : Ev (fun n => g.bind (f n)) r := by subst h; exact k
theorem Ev.at_ {α : Type} {g : Nat → Option α} {r r' : α} (h : Ev g r) (e : r = r') : Ev g r' := e ▸ h
theorem Ev.one {α : Type} {g : Nat → Option α} {r r' : α} (h : Ev g r) (h' : Ev g r') : r = r' := by
  obtain ⟨K, h⟩ := h; obtain ⟨K', h'⟩ := h'
  have a := h (max K K') (by omega); have b := h' (max K K') (by omega)
  rw [a] at b; exact Option.some.inj b
def Both {α : Type} (P : α → Prop) (g f : Nat → Option α) : Prop := ∃ r, Ev g r ∧ Ev f r ∧ P r
theorem Both.now {α : Type} {P : α → Prop} (r : α) (h : P r) : Both P (fun _ => some r) (fun _ => some r) := ⟨r, Ev.now r, Ev.now r, h⟩
theorem Both.mono {α : Type} {P Q : α → Prop} {g f : Nat → Option α} (h : Both P g f) (hq : ∀ r, P r → Q r) : Both Q g f := by obtain ⟨r, a, b, c⟩ := h; exact ⟨r, a, b, hq r c⟩
theorem Both.congrL {α : Type} {P : α → Prop} {g g' f : Nat → Option α} (e : ∀ k, g k = g' k) (h : Both P g' f) : Both P g f := by obtain ⟨r, a, b, c⟩ := h; exact ⟨r, a.congr e, b, c⟩
theorem Both.congrR {α : Type} {P : α → Prop} {g f f' : Nat → Option α} (e : ∀ k, f k = f' k) (h : Both P g f') : Both P g f := by obtain ⟨r, a, b, c⟩ := h; exact ⟨r, a, b.congr e, c⟩
theorem Both.posL {α : Type} {P : α → Prop} {c : Prop} [Decidable c] {A B f : Nat → Option α} (h : c) (e : Both P A f) : Both P (fun k => if c then A k else B k) f := e.congrL (fun _ => if_pos h)
theorem Both.negL {α : Type} {P : α → Prop} {c : Prop} [Decidable c] {A B f : Nat → Option α} (h : ¬ c) (e : Both P B f) : Both P (fun k => if c then A k else B k) f := e.congrL (fun _ => if_neg h)
theorem Both.posR {α : Type} {P : α → Prop} {c : Prop} [Decidable c] {A B f : Nat → Option α} (h : c) (e : Both P f A) : Both P f (fun k => if c then A k else B k) := e.congrR (fun _ => if_pos h)
theorem Both.negR {α : Type} {P : α → Prop} {c : Prop} [Decidable c] {A B f : Nat → Option α} (h : ¬ c) (e : Both P f B) : Both P f (fun k => if c then A k else B k) := e.congrR (fun _ => if_neg h)
theorem Both.ite {α : Type} {P : α → Prop} {c : Prop} [Decidable c] {A B A' B' : Nat → Option α} (h1 : c → Both P A A') (h2 : ¬ c → Both P B B') : Both P (fun k => if c then A k else B k) (fun k => if c then A' k else B' k) := by
  by_cases h : c
  · exact ((h1 h).posL h).posR h
  · exact ((h2 h).negL h).negR h
theorem Both.stepL {α : Type} {P : α → Prop} {g g' f : Nat → Option α} (e : ∀ k, g (k + 1) = g' k) (h : Both P g' f) : Both P g f := by obtain ⟨r, a, b, c⟩ := h; exact ⟨r, a.step e, b, c⟩
theorem Both.bindL {α β : Type} {P : β → Prop} {g : Nat → Option α} {F : Nat → α → Option β} {f : Nat → Option β} {a : α} (h : Ev g a) (e : Both P (fun k => F k a) f) : Both P (fun k => (g k).bind (F k)) f := by obtain ⟨r, x, y, c⟩ := e; exact ⟨r, Ev.bind h x, y, c⟩
theorem Both.bindR {α β : Type} {P : β → Prop} {g : Nat → Option α} {F : Nat → α → Option β} {f : Nat → Option β} {a : α} (h : Ev g a) (e : Both P f (fun k => F k a)) : Both P f (fun k => (g k).bind (F k)) := by obtain ⟨r, x, y, c⟩ := e; exact ⟨r, x, Ev.bind h y, c⟩
theorem Both.bindEL {α β : Type} {P : β → Prop} {g : Option α} {F : Nat → α → Option β} {f : Nat → Option β} {a : α} (h : g = some a) (e : Both P (fun k => F k a) f) : Both P (fun k => g.bind (F k)) f := by subst h; exact e
theorem Both.bindER {α β : Type} {P : β → Prop} {g : Option α} {F : Nat → α → Option β} {f : Nat → Option β} {a : α} (h : g = some a) (e : Both P f (fun k => F k a)) : Both P f (fun k => g.bind (F k)) := by subst h; exact e
theorem w1 (i : Nat) (h : i < 4611686018427387904) : wrap64 ((i : Int) + 1) = ((i + 1 : Nat) : Int) := by unfold wrap64; omega
theorem wrap_id (x : Int) (h0 : -9223372036854775808 ≤ x) (h1 : x ≤ 9223372036854775807) : wrap64 x = x := by unfold wrap64; omega
theorem rd_nat (l : List Int) (i : Nat) (h : i < l.length) : rd l (i : Int) = l[i] := by unfold rd; simp [List.getD, h]
theorem rdOf_nat {α : Type} (d : α) (l : List α) (i : Nat) (h : i < l.length) : rdOf d l (i : Int) = l[i] := by unfold rdOf; simp [List.getD, h]
theorem set_take {α : Type} (l : List α) (i : Nat) (v : α) (h : i < l.length) : (l.set i v).take (i + 1) = l.take i ++ [v] := by
  rw [List.take_succ_eq_append_getElem (by simpa using h), List.take_set_of_le (Nat.le_refl i)]; simp
theorem u64_nat (i : Nat) (h : i < 9223372036854775808) : IntKind.u64.wrap (i : Int) = (i : Int) := by
  have : IntKind.u64.wrap (i : Int) = (i : Int) % 18446744073709551616 := by simp [IntKind.wrap, IntKind.bits, IntKind.signed]
  rw [this]; omega
theorem shl_one (n : Nat) (h : n ≤ 60) : shl .i64 1 (n : Int) = ((2 ^ n : Nat) : Int) := by
  have hb : IntKind.i64.bits = 64 := rfl
  unfold shl
  rw [Int.toNat_natCast, hb, Nat.min_eq_left (by omega), Int.one_mul]
  have h1 : 2 ^ n ≤ 2 ^ 60 := Nat.pow_le_pow_right (by decide) h
  have h2 : ((2 : Int) ^ n) = ((2 ^ n : Nat) : Int) := by rw [Int.natCast_pow]; rfl
  rw [h2]; exact wrap_i64_nat _ (by omega)
def bitM (x : Int) (i : Nat) : Bool := Go.bits .and .i64 (shr .i64 x (i : Int)) 1 == 1
def modelM (n : Nat) (x : Int) : List Bool := (List.range n).map (fun i => bitM x i)
theorem modelM_len (n : Nat) (x : Int) : (modelM n x).length = n := by simp [modelM]
theorem spec_l4Model_loop (n : Nat) (hn : n ≤ 1048576) (x : Int) : ∀ (d i : Nat) (acc : List Bool), i + d = n → acc.length = n → acc.take i = (modelM n x).take i → Ev (fun k => spec_l4Model.l0 k x acc (n : Int) (i : Int)) (modelM n x)
  | 0, i, acc, hi, ha, ht => by
    refine Ev.step (fun k => spec_l4Model.l0.eq_2 ..) (Ev.neg (by omega) ?_)
    rw [List.take_of_length_le (by omega), List.take_of_length_le (by rw [modelM_len]; omega)] at ht
    rw [ht]; exact Ev.now _
  | d + 1, i, acc, hi, ha, ht => by
    refine Ev.step (fun k => spec_l4Model.l0.eq_2 ..) ?_
    rw [u64_nat i (by omega), w1 i (by omega), Int.toNat_natCast]
    refine Ev.pos (by omega) <| Ev.pos (by omega) <| Ev.pos (by omega) <| Ev.pos (by omega) ?_
    refine spec_l4Model_loop n hn x d (i + 1) _ (by omega) (by simpa using ha) ?_
    rw [set_take _ _ _ (by omega), ht, List.take_succ_eq_append_getElem (l := modelM n x) (by rw [modelM_len]; omega)]
    simp [modelM, bitM]
theorem spec_l4Model_ev (n : Nat) (hn : n ≤ 1048576) (x : Int) : Ev (fun k => spec_l4Model.f k (n : Int) x) (modelM n x) := by
  unfold spec_l4Model.f
  refine Ev.pos (by omega) <| Ev.pos (by omega) <| Ev.bindE rfl ?_
  rw [Int.toNat_natCast, List.length_replicate]
  exact spec_l4Model_loop n hn x n 0 _ (by omega) (by simp) (by simp)
theorem impl_model_loop (n : Nat) (hn : n ≤ 1048576) (x : Int) : ∀ (d i : Nat) (acc : List Bool), i + d = n → acc.length = n → acc.take i = (modelM n x).take i → Ev (fun k => impl_model.l0 k x acc (n : Int) (i : Int)) (modelM n x)
  | 0, i, acc, hi, ha, ht => by
    refine Ev.step (fun k => impl_model.l0.eq_2 ..) (Ev.neg (by omega) ?_)
    rw [List.take_of_length_le (by omega), List.take_of_length_le (by rw [modelM_len]; omega)] at ht
    rw [ht]; exact Ev.now _
  | d + 1, i, acc, hi, ha, ht => by
    refine Ev.step (fun k => impl_model.l0.eq_2 ..) ?_
    rw [w1 i (by omega), Int.toNat_natCast]
    refine Ev.pos (by omega) <| Ev.pos (by omega) <| Ev.pos (by omega) ?_
    refine impl_model_loop n hn x d (i + 1) _ (by omega) (by simpa using ha) ?_
    rw [set_take _ _ _ (by omega), ht, List.take_succ_eq_append_getElem (l := modelM n x) (by rw [modelM_len]; omega)]
    simp [modelM, bitM]
theorem impl_model_ev (n : Nat) (hn : n ≤ 1048576) (x : Int) : Ev (fun k => impl_model.f k (n : Int) x) (modelM n x) := by
  unfold impl_model.f
  refine Ev.pos (by omega) <| Ev.pos (by omega) <| Ev.bindE rfl ?_
  rw [Int.toNat_natCast, List.length_replicate]
  exact impl_model_loop n hn x n 0 _ (by omega) (by simp) (by simp)
def GoodK (v m : Int) : Bool := In v 0 65535 && In m 0 65535 && (Go.bits .and .i64 v m == 0)
def GoodS (lo hi : Int) : Bool := In lo 0 65535 && In hi 0 65535 && decide (lo ≤ hi)
def JoinK (a b c d : Int) : Int × Int := (Go.bits .andNot .i64 a (Go.bits .or .i64 (Go.bits .or .i64 b d) (Go.bits .xor .i64 a c)), Go.bits .or .i64 (Go.bits .or .i64 b d) (Go.bits .xor .i64 a c))
def JoinS (a b c d : Int) : Int × Int := (mn a c, mx b d)
def MeetS (a b c d : Int) : Int × Int × Bool := if mx a c > mn b d then (0, 0, false) else (mx a c, mn b d, true)
def LessS (a b c d : Int) : Int × Int × Int × Int × Bool := if a ≥ d then (0, 0, 0, 0, false) else (a, mn b (wrap64 (d - 1)), mx c (wrap64 (a + 1)), d, true)
theorem Nodeb_nat (l : List S75) (i : Nat) (h : i < l.length) : rd_T75 l (i : Int) = l[i] := by unfold rd_T75; simp [List.getD, h]
def deposit (m : Nat) : Nat → Nat → Nat → Nat → Nat
  | 0, _, _, out => out
  | d + 1, j, n, out => if m.testBit j = true then deposit m d (j + 1) (n / 2) (out + n % 2 * 2 ^ j) else deposit m d (j + 1) n out
theorem wrap_i64 (y : Int) : IntKind.i64.wrap y = wrap64 y := by
  rw [IntKind.wrap_i64]; unfold wrap64; omega
def EndsM (x y : Int) : Int × Int := if x / 65536 = y / 65536 then (x % 65536, y % 65536) else (0, 65535)
def mayN (v m x : Nat) : Nat := if x = 1 then v ||| m else andn 65535 v
def allIn (lo hi : Int) (l : List Int) : Bool := l.all fun x => In x lo hi
def tr : List Bool → Nat → List Int
  | [], _ => []
  | b :: v, s => if b = true then (s : Int) :: tr v (s + 1) else tr v (s + 1)
def putP : List Int → Int → List Int
  | [], x => [x]
  | a :: l, x => if a < x then a :: putP l x else if a = x then a :: l else x :: a :: l
theorem l1Has_loop (l : List Int) (x : Int) (hl : l.length ≤ 1099511627776) : ∀ (d i : Nat), i + d = l.length → Ev (fun k => spec_l1Has.l0 k x l (l.length : Int) (i : Int)) (decide (x ∈ l.drop i))
  | 0, i, h => by
    rw [List.drop_eq_nil_of_le (by omega)]
    exact Ev.step (fun k => spec_l1Has.l0.eq_2 ..) (Ev.neg (by omega) (Ev.now _))
  | d + 1, i, h => by
    refine Ev.step (fun k => spec_l1Has.l0.eq_2 ..) (Ev.pos (by omega) (Ev.pos (by omega) (Ev.pos (by omega) ?_)))
    rw [rd_nat l i (by omega), w1 i (by omega), List.drop_eq_getElem_cons (show i < l.length by omega)]
    by_cases hx : l[i] = x
    · refine Ev.pos hx (Ev.at_ (Ev.now _) ?_); simp [hx]
    · refine Ev.neg hx (Ev.at_ (l1Has_loop l x hl d (i + 1) (by omega)) ?_)
      have : ¬ x = l[i] := fun h => hx h.symm
      simp only [List.mem_cons, this, false_or]
theorem l1Has_ev (l : List Int) (x : Int) (hl : l.length ≤ 1099511627776) : Ev (fun k => spec_l1Has.f k l x) (decide (x ∈ l)) := by
  have h := l1Has_loop l x hl l.length 0 (by omega)
  rw [List.drop_zero] at h
  exact h
def trp (f : Nat → Bool) : List Bool → Nat → List Int
  | [], _ => []
  | b :: v, s => if (b && f s) = true then (s : Int) :: trp f v (s + 1) else trp f v (s + 1)
def halves : List Bool → List Bool × List Bool
  | [] => ([], [])
  | x :: t => (x :: (halves t).2, (halves t).1)
theorem halves_len : ∀ t : List Bool, (halves t).1.length + (halves t).2.length = t.length ∧ (halves t).2.length ≤ (halves t).1.length ∧ (halves t).1.length ≤ (halves t).2.length + 1
  | [] => by simp [halves]
  | x :: t => by have := halves_len t; simp only [halves, List.length_cons]; omega
theorem l7Half_loop (t : List Bool) (hl : t.length ≤ 1048576) : ∀ (d i : Nat) (acc : List Bool), t.length ≤ i + d → acc.length ≤ i → i ≤ t.length + 1 → Ev (fun k => spec_l7Half.l0 k t acc (i : Int)) (acc ++ (halves (t.drop i)).1)
  | 0, i, acc, h, ha, hi => by
    rw [List.drop_eq_nil_of_le (by omega)]
    exact Ev.step (fun k => spec_l7Half.l0.eq_2 ..) (Ev.neg (by omega) (Ev.at_ (Ev.now _) (by simp [halves])))
  | d + 1, i, acc, h, ha, hi => by
    by_cases hlt : i < t.length
    · refine Ev.step (fun k => spec_l7Half.l0.eq_2 ..) (Ev.pos (by omega) (Ev.pos (by omega) (Ev.pos (by omega) ?_)))
      rw [rdOf_nat false t i hlt, show wrap64 ((i : Int) + 2) = ((i + 2 : Nat) : Int) by unfold wrap64; omega]
      refine Ev.at_ (l7Half_loop t hl d (i + 2) (acc ++ [t[i]]) (by omega) (by simp; omega) (by omega)) ?_
      rw [List.drop_eq_getElem_cons hlt]
      by_cases h2 : i + 1 < t.length
      · rw [List.drop_eq_getElem_cons h2]; simp [halves]
      · rw [List.drop_eq_nil_of_le (show t.length ≤ i + 1 by omega), List.drop_eq_nil_of_le (show t.length ≤ i + 2 by omega)]; simp [halves]
    · rw [List.drop_eq_nil_of_le (by omega)]
      exact Ev.step (fun k => spec_l7Half.l0.eq_2 ..) (Ev.neg (by omega) (Ev.at_ (Ev.now _) (by simp [halves])))
theorem l7Half0_ev (t : List Bool) (hl : t.length ≤ 1048576) : Ev (fun k => spec_l7Half.f k t 0) (halves t).1 := by
  have h := l7Half_loop t hl t.length 0 [] (by omega) (by simp) (by omega)
  rw [List.drop_zero, List.nil_append] at h
  exact h
theorem l7Half1_ev (t : List Bool) (hl : t.length ≤ 1048576) : Ev (fun k => spec_l7Half.f k t 1) (halves t).2 := by
  have h := l7Half_loop t hl t.length 1 [] (by omega) (by simp) (by omega)
  rw [List.nil_append] at h
  have e : (halves (t.drop 1)).1 = (halves t).2 := by cases t with
    | nil => rfl
    | cons x t => rfl
  rw [e] at h
  exact h
theorem splits_loop (t : List Bool) (hl : t.length ≤ 1048576) : ∀ (d i : Nat) (lo hi : List Bool), i + d = t.length → lo.length ≤ i → hi.length ≤ i → Ev (fun k => impl_Diagram_build.l0 k t lo hi (i : Int)) (if i % 2 = 0 then (lo ++ (halves (t.drop i)).1, hi ++ (halves (t.drop i)).2) else (lo ++ (halves (t.drop i)).2, hi ++ (halves (t.drop i)).1))
  | 0, i, lo, hi, h, h1, h2 => by
    rw [List.drop_eq_nil_of_le (by omega)]
    exact Ev.step (fun k => impl_Diagram_build.l0.eq_2 ..) (Ev.neg (by omega) (Ev.at_ (Ev.now _) (by split <;> simp [halves])))
  | d + 1, i, lo, hi, h, h1, h2 => by
    refine Ev.step (fun k => impl_Diagram_build.l0.eq_2 ..) (Ev.pos (by omega) (Ev.pos (by omega) ?_))
    rw [rdOf_nat false t i (by omega), w1 i (by omega), List.drop_eq_getElem_cons (show i < t.length by omega)]
    by_cases hp : i % 2 = 0
    · rw [if_pos hp]
      refine Ev.pos (by omega) (Ev.pos (by omega) (Ev.at_ (splits_loop t hl d (i + 1) (lo ++ [t[i]]) hi (by omega) (by simp; omega) (by omega)) ?_))
      rw [if_neg (by omega)]; simp [halves]
    · rw [if_neg hp]
      refine Ev.neg (by omega) (Ev.pos (by omega) (Ev.at_ (splits_loop t hl d (i + 1) lo (hi ++ [t[i]]) (by omega) (by omega) (by simp; omega)) ?_))
      rw [if_pos (by omega)]; simp [halves]
theorem splits_ev (t : List Bool) (hl : t.length ≤ 1048576) : Ev (fun k => impl_Diagram_build.l0 k t [] [] 0) (halves t) := by
  have h := splits_loop t hl t.length 0 [] [] (by omega) (by simp) (by simp)
  rw [List.drop_zero, if_pos rfl] at h
  exact h
theorem spec_l7SameTable_loop (a b : List Bool) (h : a.length = b.length) (hl : a.length ≤ 1048576) : ∀ (d i : Nat), i + d = a.length → Ev (fun k => spec_l7SameTable.l0 k a b (a.length : Int) (i : Int)) (decide (a.drop i = b.drop i))
  | 0, i, hi => by
    rw [List.drop_eq_nil_of_le (by omega), List.drop_eq_nil_of_le (by omega)]
    exact Ev.step (fun k => spec_l7SameTable.l0.eq_2 ..) (Ev.neg (by omega) (Ev.at_ (Ev.now _) (by simp)))
  | d + 1, i, hi => by
    refine Ev.step (fun k => spec_l7SameTable.l0.eq_2 ..) (Ev.pos (by omega) (Ev.pos (by omega) (Ev.pos (by omega) (Ev.pos (by omega) ?_))))
    rw [rdOf_nat false a i (by omega), rdOf_nat false b i (by omega), w1 i (by omega), List.drop_eq_getElem_cons (show i < a.length by omega), List.drop_eq_getElem_cons (show i < b.length by omega)]
    by_cases hx : a[i] = b[i]
    · refine Ev.neg (by simp [hx]) (Ev.at_ (spec_l7SameTable_loop a b h hl d (i + 1) (by omega)) ?_)
      simp only [hx, List.cons.injEq, true_and]
    · refine Ev.pos (by simpa using hx) (Ev.at_ (Ev.now _) ?_)
      simp only [List.cons.injEq, hx, false_and, decide_false]
theorem slices_Equal_bool_bool_loop (a b : List Bool) (h : a.length = b.length) (hl : a.length ≤ 1048576) : ∀ (d i : Nat), i + d = a.length → Ev (fun k => slices_Equal_bool_bool.l0 k a b (a.length : Int) (i : Int)) (decide (a.drop i = b.drop i))
  | 0, i, hi => by
    rw [List.drop_eq_nil_of_le (by omega), List.drop_eq_nil_of_le (by omega)]
    exact Ev.step (fun k => slices_Equal_bool_bool.l0.eq_2 ..) (Ev.neg (by omega) (Ev.at_ (Ev.now _) (by simp)))
  | d + 1, i, hi => by
    refine Ev.step (fun k => slices_Equal_bool_bool.l0.eq_2 ..) (Ev.pos (by omega) (Ev.pos (by omega) (Ev.pos (by omega) (Ev.pos (by omega) ?_))))
    rw [rdOf_nat false a i (by omega), rdOf_nat false b i (by omega), w1 i (by omega), List.drop_eq_getElem_cons (show i < a.length by omega), List.drop_eq_getElem_cons (show i < b.length by omega)]
    by_cases hx : a[i] = b[i]
    · refine Ev.neg (by simp [hx]) (Ev.at_ (slices_Equal_bool_bool_loop a b h hl d (i + 1) (by omega)) ?_)
      simp only [hx, List.cons.injEq, true_and]
    · refine Ev.pos (by simpa using hx) (Ev.at_ (Ev.now _) ?_)
      simp only [List.cons.injEq, hx, false_and, decide_false]
theorem sameTable_ev (a b : List Bool) (h : a.length = b.length) (hl : a.length ≤ 1048576) : Ev (fun k => spec_l7SameTable.f k a b) (decide (a = b)) := by
  have := spec_l7SameTable_loop a b h hl a.length 0 (by omega)
  rw [List.drop_zero, List.drop_zero] at this
  exact this
theorem equalB_ev (a b : List Bool) (hl : a.length ≤ 1048576) : Ev (fun k => slices_Equal_bool_bool.f k a b) (decide (a = b)) := by
  unfold slices_Equal_bool_bool.f
  by_cases h : a.length = b.length
  · have := slices_Equal_bool_bool_loop a b h hl a.length 0 (by omega)
    rw [List.drop_zero, List.drop_zero] at this
    exact Ev.pos (by omega) this
  · refine Ev.neg (by omega) (Ev.at_ (Ev.now _) ?_)
    exact (decide_eq_false (fun e => h (by rw [e]))).symm
def eqN (x n : S75) : Bool := x.f0 == n.f0 && (x.f1 == n.f1 && x.f2 == n.f2)
theorem eqN_iff (x n : S75) : eqN x n = true ↔ x = n := by
  cases x; cases n; simp [eqN]
theorem eqN_comm (x n : S75) : eqN x n = eqN n x := by
  rw [Bool.eq_iff_iff, eqN_iff, eqN_iff]; exact ⟨fun h => h.symm, fun h => h.symm⟩
def eqL : List S75 → List S75 → Bool
  | [], [] => true
  | x :: s, y :: t => eqN x y && eqL s t
  | _, _ => false
theorem eqL_iff : ∀ s t : List S75, eqL s t = true ↔ s = t
  | [], [] => by simp [eqL]
  | [], y :: t => by simp [eqL]
  | x :: s, [] => by simp [eqL]
  | x :: s, y :: t => by simp [eqL, eqN_iff, eqL_iff s t]
theorem eqL_len {s t : List S75} (h : s.length ≠ t.length) : eqL s t = false := by
  rw [Bool.eq_false_iff]; intro e; rw [eqL_iff] at e; exact h (by rw [e])
def findP : List S75 → S75 → Int → Int
  | [], _, _ => -1
  | x :: t, n, i => if eqN x n = true then i else findP t n (i + 1)
theorem findP_bd : ∀ (t : List S75) (n : S75) (i : Int), 0 ≤ i → findP t n i = -1 ∨ (i ≤ findP t n i ∧ findP t n i < i + t.length)
  | [], _, _, _ => .inl rfl
  | x :: t, n, i, h => by
    unfold findP
    split
    · right; simp; omega
    · rcases findP_bd t n (i + 1) (by omega) with h1 | h1
      · exact .inl h1
      · right; simp only [List.length_cons]; omega
def bld : Nat → Int → List Bool → List S75 → Int × List S75
  | 0, _, t, q => (if rdOf false t 0 = true then 1 else 0, q)
  | n + 1, v, t, q => if (halves t).1 = (halves t).2 then bld n (v + 1) (halves t).1 q else
      (if findP (bld n (v + 1) (halves t).2 (bld n (v + 1) (halves t).1 q).2).2 ⟨v, (bld n (v + 1) (halves t).1 q).1, (bld n (v + 1) (halves t).2 (bld n (v + 1) (halves t).1 q).2).1⟩ 0 < 0
       then (((bld n (v + 1) (halves t).2 (bld n (v + 1) (halves t).1 q).2).2.length : Int) + 2, (bld n (v + 1) (halves t).2 (bld n (v + 1) (halves t).1 q).2).2 ++ [⟨v, (bld n (v + 1) (halves t).1 q).1, (bld n (v + 1) (halves t).2 (bld n (v + 1) (halves t).1 q).2).1⟩])
       else (findP (bld n (v + 1) (halves t).2 (bld n (v + 1) (halves t).1 q).2).2 ⟨v, (bld n (v + 1) (halves t).1 q).1, (bld n (v + 1) (halves t).2 (bld n (v + 1) (halves t).1 q).2).1⟩ 0 + 2, (bld n (v + 1) (halves t).2 (bld n (v + 1) (halves t).1 q).2).2))
theorem bld_len : ∀ (n : Nat) (v : Int) (t : List Bool) (q : List S75), (bld n v t q).2.length + 1 ≤ q.length + 2 ^ n
  | 0, v, t, q => by simp [bld]
  | n + 1, v, t, q => by
    have h1 := bld_len n (v + 1) (halves t).1 q
    have h2 := bld_len n (v + 1) (halves t).2 (bld n (v + 1) (halves t).1 q).2
    have e : 2 ^ (n + 1) = 2 ^ n + 2 ^ n := by rw [Nat.pow_succ]; omega
    rw [e]
    generalize 2 ^ n = P at h1 h2 ⊢
    unfold bld
    split
    · omega
    · split
      · simp only [List.length_append, List.length_cons, List.length_nil]; omega
      · simp only; omega
theorem halves_pow (t : List Bool) (n : Nat) (h : t.length = 2 ^ (n + 1)) : (halves t).1.length = 2 ^ n ∧ (halves t).2.length = 2 ^ n := by
  have := halves_len t
  have e : 2 ^ (n + 1) = 2 ^ n + 2 ^ n := by rw [Nat.pow_succ]; omega
  rw [e] at h
  generalize 2 ^ n = P at h ⊢
  omega
theorem indexN_loop (q : List S75) (hl : q.length ≤ 1048576) (n : S75) : ∀ (d i : Nat), i + d = q.length → Ev (fun k => impl_Node_110.l0 k q (q.length : Int) (i : Int) n.f0 n.f1 n.f2) (findP (q.drop i) n (i : Int))
  | 0, i, h => by
    rw [List.drop_eq_nil_of_le (by omega)]
    exact Ev.step (fun k => impl_Node_110.l0.eq_2 ..) (Ev.neg (by omega) (Ev.now _))
  | d + 1, i, h => by
    refine Ev.step (fun k => impl_Node_110.l0.eq_2 ..) (Ev.pos (by omega) (Ev.pos (by omega) (Ev.pos (by omega) ?_)))
    rw [Nodeb_nat q i (by omega), w1 i (by omega), List.drop_eq_getElem_cons (show i < q.length by omega)]
    have e : (n.f0 == q[i].f0 && (n.f1 == q[i].f1 && n.f2 == q[i].f2)) = eqN q[i] n := eqN_comm n q[i]
    rw [e]
    unfold findP
    by_cases hx : eqN q[i] n = true
    · rw [if_pos hx]; exact Ev.pos hx (Ev.now _)
    · rw [if_neg hx]
      exact Ev.neg hx (indexN_loop q hl n d (i + 1) (by omega))
theorem indexN_ev (q : List S75) (hl : q.length ≤ 1048576) (v a b : Int) : Ev (fun k => impl_Node_110.f k q v a b) (findP q ⟨v, a, b⟩ 0) := by
  have h := indexN_loop q hl ⟨v, a, b⟩ q.length 0 (by omega)
  rw [List.drop_zero] at h
  exact h
theorem lp_loop (q : List S75) (hl : q.length ≤ 1048576) (n : S75) : ∀ (d i : Nat), i + d = q.length → Ev (fun k => spec_l7B_build.lp k q n.f0 n.f1 n.f2 (i : Int)) (if findP (q.drop i) n (i : Int) < 0 then -1 else findP (q.drop i) n (i : Int) + 2)
  | 0, i, h => by
    rw [List.drop_eq_nil_of_le (by omega)]
    exact Ev.step (fun k => spec_l7B_build.lp.eq_2 ..) (Ev.neg (by omega) (Ev.now _))
  | d + 1, i, h => by
    refine Ev.step (fun k => spec_l7B_build.lp.eq_2 ..) (Ev.pos (by omega) (Ev.pos (by omega) ?_))
    rw [Nodeb_nat q i (by omega), w1 i (by omega), List.drop_eq_getElem_cons (show i < q.length by omega)]
    unfold findP
    by_cases hx : eqN q[i] n = true
    · rw [if_pos hx, if_neg (by omega)]; exact Ev.pos hx (Ev.now _)
    · rw [if_neg hx]
      exact Ev.neg hx (lp_loop q hl n d (i + 1) (by omega))
theorem lp_ev (q : List S75) (hl : q.length ≤ 1048576) (v a b : Int) : Ev (fun k => spec_l7B_build.lp k q v a b 0) (if findP q ⟨v, a, b⟩ 0 < 0 then -1 else findP q ⟨v, a, b⟩ 0 + 2) := by
  have h := lp_loop q hl ⟨v, a, b⟩ q.length 0 (by omega)
  rw [List.drop_zero] at h
  exact h
theorem build_ev : ∀ (n : Nat) (v : Int) (t : List Bool) (q : List S75), t.length = 2 ^ n → 2 ^ n ≤ 1024 → 0 ≤ v → v + n ≤ 1000 → q.length + 2 ^ n ≤ 65536 → Ev (fun k => impl_Diagram_build.f k v t q) (bld n v t q)
  | 0, v, t, q, ht, hp, hv, hn, hq => by
    refine Ev.step (fun k => impl_Diagram_build.f.eq_2 ..) (Ev.pos (by rw [ht]; rfl) (Ev.now _))
  | n + 1, v, t, q, ht, hp, hv, hn, hq => by
    have hh := halves_pow t n ht
    have e : 2 ^ (n + 1) = 2 ^ n + 2 ^ n := by rw [Nat.pow_succ]; omega
    have hP : 0 < 2 ^ n := Nat.pow_pos (by decide)
    rw [e] at ht hp hq
    have b1 := bld_len n (v + 1) (halves t).1 q
    have b2 := bld_len n (v + 1) (halves t).2 (bld n (v + 1) (halves t).1 q).2
    have i1 := build_ev n (v + 1) (halves t).1 q hh.1 (by omega) (by omega) (by omega) (by omega)
    have i2 := build_ev n (v + 1) (halves t).2 (bld n (v + 1) (halves t).1 q).2 hh.2 (by omega) (by omega) (by omega) (by omega)
    generalize 2 ^ n = P at *
    refine Ev.step (fun k => impl_Diagram_build.f.eq_2 ..) (Ev.neg (by omega) (Ev.bind (splits_ev t (by omega)) (Ev.bind (equalB_ev _ _ (by omega)) ?_)))
    rw [wrap_id (v + 1) (by omega) (by omega)]
    unfold bld
    by_cases hx : (halves t).1 = (halves t).2
    · rw [if_pos hx]; exact Ev.pos (decide_eq_true hx) i1
    · rw [if_neg hx]
      refine Ev.neg (by simpa using hx) (Ev.bind i1 (Ev.bind i2 (Ev.bind (indexN_ev _ (by omega) _ _ _) ?_)))
      generalize bld n (v + 1) (halves t).1 q = x at *
      generalize bld n (v + 1) (halves t).2 x.2 = y at *
      rcases findP_bd y.2 ⟨v, x.1, y.1⟩ 0 (by omega) with h | h
      · have hc : findP y.2 ⟨v, x.1, y.1⟩ 0 < 0 := by omega
        simp only [if_pos hc]
        refine Ev.pos (by omega) (Ev.at_ (Ev.now _) ?_)
        rw [wrap_id _ (by omega) (by omega)]
      · have hc : ¬ findP y.2 ⟨v, x.1, y.1⟩ 0 < 0 := by omega
        simp only [if_neg hc]
        refine Ev.at_ (Ev.now _) ?_
        rw [wrap_id _ (by omega) (by omega)]
theorem buildS_ev : ∀ (n : Nat) (v : Int) (t : List Bool) (q : List S75), t.length = 2 ^ n → 2 ^ n ≤ 1024 → 0 ≤ v → v + n ≤ 1000 → q.length + 2 ^ n ≤ 65536 → Ev (fun k => spec_l7B_build.f k v t q) (bld n v t q)
  | 0, v, t, q, ht, hp, hv, hn, hq => by
    refine Ev.step (fun k => spec_l7B_build.f.eq_2 ..) (Ev.pos (by rw [ht]; rfl) (Ev.now _))
  | n + 1, v, t, q, ht, hp, hv, hn, hq => by
    have hh := halves_pow t n ht
    have e : 2 ^ (n + 1) = 2 ^ n + 2 ^ n := by rw [Nat.pow_succ]; omega
    have hP : 0 < 2 ^ n := Nat.pow_pos (by decide)
    rw [e] at ht hp hq
    have b1 := bld_len n (v + 1) (halves t).1 q
    have b2 := bld_len n (v + 1) (halves t).2 (bld n (v + 1) (halves t).1 q).2
    have i1 := buildS_ev n (v + 1) (halves t).1 q hh.1 (by omega) (by omega) (by omega) (by omega)
    have i2 := buildS_ev n (v + 1) (halves t).2 (bld n (v + 1) (halves t).1 q).2 hh.2 (by omega) (by omega) (by omega) (by omega)
    generalize 2 ^ n = P at *
    refine Ev.step (fun k => spec_l7B_build.f.eq_2 ..) (Ev.neg (by omega) (Ev.bind (l7Half0_ev t (by omega)) (Ev.bind (l7Half1_ev t (by omega)) (Ev.bind (sameTable_ev _ _ (by omega) (by omega)) ?_))))
    rw [wrap_id (v + 1) (by omega) (by omega)]
    unfold bld
    by_cases hx : (halves t).1 = (halves t).2
    · rw [if_pos hx]; exact Ev.pos (decide_eq_true hx) i1
    · rw [if_neg hx]
      refine Ev.neg (by simpa using hx) (Ev.bind i1 (Ev.bind i2 (Ev.pos (by omega) (Ev.bind (lp_ev _ (by omega) _ _ _) ?_))))
      generalize bld n (v + 1) (halves t).1 q = x at *
      generalize bld n (v + 1) (halves t).2 x.2 = y at *
      rcases findP_bd y.2 ⟨v, x.1, y.1⟩ 0 (by omega) with h | h
      · rw [if_pos (show findP y.2 ⟨v, x.1, y.1⟩ 0 < 0 by omega), if_pos (show findP y.2 ⟨v, x.1, y.1⟩ 0 < 0 by omega)]
        exact Ev.pos (by omega) (Ev.now _)
      · rw [if_neg (show ¬ findP y.2 ⟨v, x.1, y.1⟩ 0 < 0 by omega), if_neg (show ¬ findP y.2 ⟨v, x.1, y.1⟩ 0 < 0 by omega)]
        exact Ev.neg (by omega) (Ev.now _)
def evP (q : List S75) (β : Int → Bool) : Nat → Int → Bool
  | 0, p => p == 1
  | m + 1, p => if p > 1 then evP q β m (if β ((rd_T75 q (p - 2)).f0 - 1) = true then (rd_T75 q (p - 2)).f2 else (rd_T75 q (p - 2)).f1) else p == 1
def nodeB (a : Int) (q : List S75) (i : Nat) : Bool := In (rd_T75 q (i : Int)).f0 1 a && In (rd_T75 q (i : Int)).f1 0 ((i : Int) + 1) && In (rd_T75 q (i : Int)).f2 0 ((i : Int) + 1)
def nodesFrom (a : Int) (q : List S75) : Nat → Nat → Bool
  | 0, _ => true
  | d + 1, i => nodeB a q i && nodesFrom a q d (i + 1)
theorem nodesFrom_at (a : Int) (q : List S75) : ∀ (d i j : Nat), nodesFrom a q d i = true → i ≤ j → j < i + d → nodeB a q j = true
  | 0, i, j, h, h1, h2 => by omega
  | d + 1, i, j, h, h1, h2 => by
    unfold nodesFrom at h
    rw [Bool.and_eq_true] at h
    by_cases e : j = i
    · rw [e]; exact h.1
    · exact nodesFrom_at a q d (i + 1) j h.2 (by omega) (by omega)
def bitB (n : Nat) (j : Int) : Bool := bitM (n : Int) j.toNat
def tblP (v : Nat) (q : List S75) (c : Int) : List Bool := (List.range (2 ^ v)).map (fun k => evP q (bitB k) 64 c)
theorem tblP_len (v : Nat) (q : List S75) (c : Int) : (tblP v q c).length = 2 ^ v := by simp [tblP]
theorem l7Eval_loop (v : Nat) (q : List S75) (hq : q.length ≤ 64) (hv : v ≤ 6) (ok : ∀ i, i < q.length → nodeB (v : Int) q i = true) (a c : Int) (mo : List Bool) (hm : mo.length = v) (β : Int → Bool) (hβ : ∀ j : Nat, j < v → rdOf false mo (j : Int) = β (j : Int)) : ∀ (m : Nat) (p : Int), 0 ≤ p → p ≤ (m : Int) + 1 → p ≤ (q.length : Int) + 1 → Ev (fun k => spec_l7Eval.l0 k mo p a q c) (evP q β m p)
  | 0, p, h0, h1, h2 => Ev.step (fun k => spec_l7Eval.l0.eq_2 ..) (Ev.neg (by omega) (Ev.now _))
  | m + 1, p, h0, h1, h2 => by
    refine Ev.step (fun k => spec_l7Eval.l0.eq_2 ..) ?_
    unfold evP
    by_cases hp : p > 1
    · obtain ⟨i, hi⟩ := Int.eq_ofNat_of_zero_le (show 0 ≤ p - 2 by omega)
      have hg := ok i (by omega)
      unfold nodeB at hg
      simp only [Bool.and_eq_true, In_true] at hg
      rw [if_pos hp, wrap_id (p - 2) (by omega) (by omega), hi]
      obtain ⟨j, hj⟩ := Int.eq_ofNat_of_zero_le (show 0 ≤ (rd_T75 q (i : Int)).f0 - 1 by omega)
      rw [wrap_id _ (by omega) (by omega), hj]
      refine Ev.pos hp (Ev.pos (by omega) (Ev.pos (by omega) (Ev.pos (by omega) (Ev.pos (by omega) ?_))))
      rw [hβ j (by omega)]
      by_cases hb : β (j : Int) = true
      · rw [if_pos hb]; exact Ev.pos hb (l7Eval_loop v q hq hv ok a c mo hm β hβ m _ (by omega) (by omega) (by omega))
      · rw [if_neg hb]; exact Ev.neg hb (l7Eval_loop v q hq hv ok a c mo hm β hβ m _ (by omega) (by omega) (by omega))
    · rw [if_neg hp]; exact Ev.neg hp (Ev.now _)
theorem l7Eval_ev (v : Nat) (q : List S75) (hq : q.length ≤ 64) (hv : v ≤ 6) (ok : ∀ i, i < q.length → nodeB (v : Int) q i = true) (a c : Int) (mo : List Bool) (hm : mo.length = v) (β : Int → Bool) (hβ : ∀ j : Nat, j < v → rdOf false mo (j : Int) = β (j : Int)) (h0 : 0 ≤ c) (h2 : c ≤ (q.length : Int) + 1) : Ev (fun k => spec_l7Eval.f k a q c mo) (evP q β 64 c) :=
  l7Eval_loop v q hq hv ok a c mo hm β hβ 64 c h0 (by omega) h2
theorem value_loop (v : Nat) (q : List S75) (hq : q.length ≤ 64) (hv : v ≤ 6) (ok : ∀ i, i < q.length → nodeB (v : Int) q i = true) (a c : Int) (n : Nat) : ∀ (m : Nat) (p : Int), 0 ≤ p → p ≤ (m : Int) + 1 → p ≤ (q.length : Int) + 1 → Ev (fun k => impl_Diagram_value.l0 k (n : Int) p a q c) (evP q (bitB n) m p)
  | 0, p, h0, h1, h2 => Ev.step (fun k => impl_Diagram_value.l0.eq_2 ..) (Ev.neg (by omega) (Ev.now _))
  | m + 1, p, h0, h1, h2 => by
    refine Ev.step (fun k => impl_Diagram_value.l0.eq_2 ..) ?_
    unfold evP
    by_cases hp : p > 1
    · obtain ⟨i, hi⟩ := Int.eq_ofNat_of_zero_le (show 0 ≤ p - 2 by omega)
      have hg := ok i (by omega)
      unfold nodeB at hg
      simp only [Bool.and_eq_true, In_true] at hg
      rw [if_pos hp, wrap_id (p - 2) (by omega) (by omega), hi]
      obtain ⟨j, hj⟩ := Int.eq_ofNat_of_zero_le (show 0 ≤ (rd_T75 q (i : Int)).f0 - 1 by omega)
      rw [wrap_id _ (by omega) (by omega), hj]
      refine Ev.pos hp (Ev.pos (by omega) (Ev.pos (by omega) (Ev.pos (by omega) ?_)))
      have e : bitB n (j : Int) = (Go.bits .and .i64 (shr .i64 (n : Int) (j : Int)) 1 == 1) := by unfold bitB bitM; rw [Int.toNat_natCast]
      by_cases hb : bitB n (j : Int) = true
      · rw [if_pos hb]; rw [e] at hb
        exact Ev.pos (by simpa using hb) (value_loop v q hq hv ok a c n m _ (by omega) (by omega) (by omega))
      · rw [if_neg hb]; rw [e] at hb
        exact Ev.neg (by simpa using hb) (value_loop v q hq hv ok a c n m _ (by omega) (by omega) (by omega))
    · rw [if_neg hp]; exact Ev.neg hp (Ev.now _)
theorem value_ev (v : Nat) (q : List S75) (hq : q.length ≤ 64) (hv : v ≤ 6) (ok : ∀ i, i < q.length → nodeB (v : Int) q i = true) (a c : Int) (n : Nat) (h0 : 0 ≤ c) (h2 : c ≤ (q.length : Int) + 1) : Ev (fun k => impl_Diagram_value.f k a q c (n : Int)) (evP q (bitB n) 64 c) :=
  value_loop v q hq hv ok a c n 64 c h0 (by omega) h2
theorem pow6 (v : Nat) (hv : v ≤ 6) : 2 ^ v ≤ 64 := Nat.le_trans (Nat.pow_le_pow_right (by decide) hv) (by decide)
theorem table_loop (v : Nat) (q : List S75) (hq : q.length ≤ 64) (hv : v ≤ 6) (ok : ∀ i, i < q.length → nodeB (v : Int) q i = true) (c : Int) (h0 : 0 ≤ c) (h2 : c ≤ (q.length : Int) + 1) (N : Nat) (hN : N ≤ 64) : ∀ (d i : Nat) (acc : List Bool), i + d = N → acc.length ≤ i → Ev (fun k => impl_Diagram_table.l0 k acc (N : Int) (i : Int) (v : Int) q c) (acc ++ (List.range' i d).map (fun k => evP q (bitB k) 64 c))
  | 0, i, acc, h, ha => Ev.step (fun k => impl_Diagram_table.l0.eq_2 ..) (Ev.neg (by omega) (Ev.at_ (Ev.now _) (by simp)))
  | d + 1, i, acc, h, ha => by
    refine Ev.step (fun k => impl_Diagram_table.l0.eq_2 ..) (Ev.pos (by omega) (Ev.bind (value_ev v q hq hv ok (v : Int) c i h0 h2) (Ev.pos (by omega) ?_)))
    rw [w1 i (by omega)]
    refine Ev.at_ (table_loop v q hq hv ok c h0 h2 N hN d (i + 1) _ (by omega) (by simp; omega)) ?_
    simp [List.range'_succ]
theorem table_ev (v : Nat) (q : List S75) (hq : q.length ≤ 64) (hv : v ≤ 6) (ok : ∀ i, i < q.length → nodeB (v : Int) q i = true) (c : Int) (h0 : 0 ≤ c) (h2 : c ≤ (q.length : Int) + 1) : Ev (fun k => impl_Diagram_table.f k (v : Int) q c) (tblP v q c) := by
  unfold impl_Diagram_table.f
  refine Ev.pos (by omega) ?_
  rw [shl_one v (by omega)]
  refine Ev.at_ (table_loop v q hq hv ok c h0 h2 (2 ^ v) (pow6 v hv) (2 ^ v) 0 [] (by omega) (by simp)) ?_
  rw [List.nil_append, ← List.range_eq_range']; rfl
theorem rd_model (v n j : Nat) (h : j < v) : rdOf false (modelM v (n : Int)) (j : Int) = bitB n (j : Int) := by
  rw [rdOf_nat false _ j (by rw [modelM_len]; exact h)]
  simp [modelM, bitB]
theorem l7Table_loop1 (v : Nat) (q : List S75) (hq : q.length ≤ 64) (hv : v ≤ 6) (ok : ∀ i, i < q.length → nodeB (v : Int) q i = true) (c : Int) (h0 : 0 ≤ c) (h2 : c ≤ (q.length : Int) + 1) : ∀ (d i : Nat) (acc : List Bool), i + d = 2 ^ v → acc.length ≤ i → Ev (fun k => spec_l7Table.l1 k acc (i : Int) (v : Int) q c) (acc ++ (List.range' i d).map (fun k => evP q (bitB k) 64 c), true)
  | 0, i, acc, h, ha => by
    refine Ev.step (fun k => spec_l7Table.l1.eq_2 ..) ?_
    rw [u64_nat v (by omega), shl_one v (by omega)]
    exact Ev.pos (by omega) (Ev.neg (by omega) (Ev.at_ (Ev.now _) (by simp)))
  | d + 1, i, acc, h, ha => by
    have := pow6 v hv
    refine Ev.step (fun k => spec_l7Table.l1.eq_2 ..) ?_
    rw [u64_nat v (by omega), shl_one v (by omega)]
    refine Ev.pos (by omega) (Ev.pos (by omega) (Ev.bind (spec_l4Model_ev v (by omega) (i : Int)) (Ev.bind (l7Eval_ev v q hq hv ok (v : Int) c _ (modelM_len v _) (bitB i) (fun j hj => rd_model v i j hj) h0 h2) (Ev.pos (by omega) ?_))))
    rw [w1 i (by omega)]
    refine Ev.at_ (l7Table_loop1 v q hq hv ok c h0 h2 d (i + 1) _ (by omega) (by simp; omega)) ?_
    simp [List.range'_succ]
theorem l7Table_loop0 (v : Nat) (q : List S75) (hq : q.length ≤ 64) (hv : v ≤ 6) (c : Int) : ∀ (d i : Nat) (R : List Bool × Bool), i + d = q.length → (nodesFrom (v : Int) q d i = true → Ev (fun k => spec_l7Table.l1 k ([] : List Bool) 0 (v : Int) q c) R) → Ev (fun k => spec_l7Table.l0 k q (q.length : Int) (i : Int) (v : Int) q c) (if nodesFrom (v : Int) q d i = true then R else ([], false))
  | 0, i, R, h, hR => by
    rw [if_pos (show nodesFrom (v : Int) q 0 i = true from rfl)]
    exact Ev.step (fun k => spec_l7Table.l0.eq_2 ..) (Ev.neg (by omega) (hR rfl))
  | d + 1, i, R, h, hR => by
    refine Ev.step (fun k => spec_l7Table.l0.eq_2 ..) (Ev.pos (by omega) (Ev.pos (by omega) (Ev.pos (by omega) (Ev.bindE (spec_l1In_eq ..) ?_))))
    rw [w1 i (by omega), show ((i + 1 : Nat) : Int) = (i : Int) + 1 by omega]
    unfold nodesFrom at hR ⊢
    have ih := l7Table_loop0 v q hq hv c d (i + 1)
    by_cases g0 : In (rd_T75 q (i : Int)).f0 1 (v : Int) = true
    · refine Ev.pos g0 (Ev.bindE (spec_l1In_eq ..) ?_)
      by_cases g1 : In (rd_T75 q (i : Int)).f1 0 ((i : Int) + 1) = true
      · refine Ev.pos g1 (Ev.bindE (spec_l1In_eq ..) ?_)
        by_cases g2 : In (rd_T75 q (i : Int)).f2 0 ((i : Int) + 1) = true
        · have e : nodeB (v : Int) q i = true := by unfold nodeB; rw [g0, g1, g2]; rfl
          rw [e, Bool.true_and] at hR ⊢
          exact Ev.pos g2 (ih R (by omega) hR)
        · rw [if_neg (by unfold nodeB; rw [Bool.eq_false_iff.mpr g2]; simp)]; exact Ev.neg g2 (Ev.now _)
      · rw [if_neg (by unfold nodeB; rw [Bool.eq_false_iff.mpr g1]; simp)]; exact Ev.neg g1 (Ev.now _)
    · rw [if_neg (by unfold nodeB; rw [Bool.eq_false_iff.mpr g0]; simp)]; exact Ev.neg g0 (Ev.now _)
def okD (a : Int) (q : List S75) (c : Int) : Bool := In a 0 6 && decide (q.length ≤ 64) && In c 0 ((q.length : Int) + 1) && nodesFrom a q q.length 0
theorem okD_at {a : Int} {q : List S75} {c : Int} (h : okD a q c = true) : ∃ v : Nat, a = (v : Int) ∧ v ≤ 6 ∧ q.length ≤ 64 ∧ 0 ≤ c ∧ c ≤ (q.length : Int) + 1 ∧ ∀ i, i < q.length → nodeB a q i = true := by
  unfold okD at h
  simp only [Bool.and_eq_true, In_true, decide_eq_true_eq] at h
  obtain ⟨⟨⟨h1, h2⟩, h3⟩, h4⟩ := h
  obtain ⟨v, rfl⟩ := Int.eq_ofNat_of_zero_le h1.1
  exact ⟨v, rfl, by omega, h2, h3.1, h3.2, fun i hi => nodesFrom_at _ q q.length 0 i h4 (by omega) (by omega)⟩
theorem l7Table_ev (a : Int) (q : List S75) (c : Int) (hl : q.length ≤ 1048576) : Ev (fun k => spec_l7Table.f k a q c) (if okD a q c = true then (tblP a.toNat q c, true) else ([], false)) := by
  have bad : okD a q c = false → ∀ b, b = true → Ev (fun k => spec_l7Table.j0 k b a q c) (if okD a q c = true then (tblP a.toNat q c, true) else ([], false)) := fun ho b hb => by
    rw [ho, hb]; exact Ev.step (fun k => spec_l7Table.j0.eq_2 ..) (Ev.pos rfl (Ev.now _))
  unfold spec_l7Table.f
  refine Ev.bindE (spec_l1In_eq ..) ?_
  by_cases h1 : In a 0 6 = true
  · refine Ev.pos h1 ?_
    by_cases h2 : q.length ≤ 64
    · refine Ev.neg (by omega) (Ev.bindE (spec_l1In_eq ..) ?_)
      rw [wrap_id _ (by omega) (by omega)]
      by_cases h3 : In c 0 ((q.length : Int) + 1) = true
      · rw [h3]
        obtain ⟨v, rfl⟩ := Int.eq_ofNat_of_zero_le (In_true.1 h1).1
        have hv : v ≤ 6 := by have := In_true.1 h1; omega
        have hc := In_true.1 h3
        have e : okD (v : Int) q c = nodesFrom (v : Int) q q.length 0 := by unfold okD; rw [h1, h3, decide_eq_true h2]; rfl
        rw [e]
        refine Ev.step (fun k => spec_l7Table.j0.eq_2 ..) (Ev.neg (by simp) ?_)
        refine l7Table_loop0 v q h2 hv c q.length 0 (tblP v q c, true) (by omega) (fun hn => ?_)
        refine Ev.at_ (l7Table_loop1 v q h2 hv (fun i hi => nodesFrom_at _ q q.length 0 i hn (by omega) (by omega)) c hc.1 hc.2 (2 ^ v) 0 [] (by omega) (by simp)) ?_
        rw [List.nil_append, ← List.range_eq_range']; rfl
      · exact bad (by unfold okD; rw [Bool.eq_false_iff.mpr h3]; simp) _ (by rw [Bool.eq_false_iff.mpr h3]; rfl)
    · exact Ev.pos (by omega) (bad (by unfold okD; rw [decide_eq_false h2]; simp) _ rfl)
  · exact Ev.neg h1 (bad (by unfold okD; rw [Bool.eq_false_iff.mpr h1]; simp) _ rfl)
def goodD (a : Int) (q : List S75) (c : Int) : Bool := okD a q c && ((bld a.toNat 1 (tblP a.toNat q c) []).1 == c && eqL (bld a.toNat 1 (tblP a.toNat q c) []).2 q)
theorem goodD_ok {a : Int} {q : List S75} {c : Int} (h : goodD a q c = true) : okD a q c = true := by
  unfold goodD at h; rw [Bool.and_eq_true] at h; exact h.1
theorem l7Of_ev (v : Nat) (hv : v ≤ 6) (t : List Bool) (ht : t.length = 2 ^ v) : Ev (fun k => spec_l7Of.f k (v : Int) t) ((v : Int), (bld v 1 t []).2, (bld v 1 t []).1) := by
  have h6 := pow6 v hv
  have hb := bld_len v 1 t []
  have hb2 : (bld v 1 t []).2.length < 1099511627776 := by rw [List.length_nil] at hb; omega
  unfold spec_l7Of.f
  exact Ev.bind (buildS_ev v 1 t [] ht (by omega) (by omega) (by omega) (by simp; omega)) (Ev.pos hb2 (Ev.now _))
theorem diagram_ev (v : Nat) (hv : v ≤ 6) (t : List Bool) (ht : t.length = 2 ^ v) : Ev (fun k => impl_diagram.f k (v : Int) t) ((v : Int), (bld v 1 t []).2, (bld v 1 t []).1) := by
  have h6 := pow6 v hv
  unfold impl_diagram.f
  exact Ev.bind (build_ev v 1 t [] ht (by omega) (by omega) (by omega) (by simp; omega)) (Ev.now _)
theorem equalN_loop (x q : List S75) (h : x.length = q.length) (hl : x.length ≤ 1048576) : ∀ (d i : Nat), i + d = x.length → Ev (fun k => impl_Node_85.l0 k x q (x.length : Int) (i : Int)) (eqL (x.drop i) (q.drop i))
  | 0, i, hi => by
    rw [List.drop_eq_nil_of_le (by omega), List.drop_eq_nil_of_le (by omega)]
    exact Ev.step (fun k => impl_Node_85.l0.eq_2 ..) (Ev.neg (by omega) (Ev.now _))
  | d + 1, i, hi => by
    refine Ev.step (fun k => impl_Node_85.l0.eq_2 ..) (Ev.pos (by omega) (Ev.pos (by omega) (Ev.pos (by omega) (Ev.pos (by omega) ?_))))
    rw [Nodeb_nat x i (by omega), Nodeb_nat q i (by omega), w1 i (by omega), List.drop_eq_getElem_cons (show i < x.length by omega), List.drop_eq_getElem_cons (show i < q.length by omega)]
    have e : (!(x[i].f0 == q[i].f0) || (!(x[i].f1 == q[i].f1) || !(x[i].f2 == q[i].f2))) = !(eqN x[i] q[i]) := by unfold eqN; simp only [Bool.not_and]
    rw [e]
    unfold eqL
    by_cases hx : eqN x[i] q[i] = true
    · rw [hx, Bool.true_and]; exact Ev.neg (by simp) (equalN_loop x q h hl d (i + 1) (by omega))
    · rw [Bool.eq_false_iff.mpr hx, Bool.false_and]; exact Ev.pos (by simp) (Ev.now _)
theorem equalN_ev (x q : List S75) (hl : x.length ≤ 1048576) : Ev (fun k => impl_Node_85.f k x q) (eqL x q) := by
  unfold impl_Node_85.f
  by_cases h : x.length = q.length
  · have := equalN_loop x q h hl x.length 0 (by omega)
    rw [List.drop_zero, List.drop_zero] at this
    exact Ev.pos (by omega) this
  · exact Ev.neg (by omega) (Ev.at_ (Ev.now _) (eqL_len h).symm)
theorem goodI_loop (v : Nat) (q : List S75) (hq : q.length ≤ 64) (hv : v ≤ 6) (c : Int) : ∀ (d i : Nat) (R : Bool), i + d = q.length → (nodesFrom (v : Int) q d i = true → Ev (fun k => (impl_Diagram_table.f k (v : Int) q c).bind fun t196 => ((impl_diagram.f k (v : Int) t196).bind fun bt199 => (if bt199.2.2 = c then ((impl_Node_85.f k bt199.2.1 q).bind fun t205 => (some t205)) else (some false)))) R) → Ev (fun k => impl_GoodDiagram.l0 k q (q.length : Int) (i : Int) (v : Int) q c) (nodesFrom (v : Int) q d i && R)
  | 0, i, R, h, hR => Ev.step (fun k => impl_GoodDiagram.l0.eq_2 ..) (Ev.neg (by omega) (hR rfl))
  | d + 1, i, R, h, hR => by
    refine Ev.step (fun k => impl_GoodDiagram.l0.eq_2 ..) (Ev.pos (by omega) (Ev.pos (by omega) (Ev.pos (by omega) (Ev.bindE (impl_in_eq ..) ?_))))
    rw [w1 i (by omega), show ((i + 1 : Nat) : Int) = (i : Int) + 1 by omega]
    unfold nodesFrom at hR ⊢
    have ih := goodI_loop v q hq hv c d (i + 1)
    by_cases g0 : In (rd_T75 q (i : Int)).f0 1 (v : Int) = true
    · refine Ev.pos g0 (Ev.bindE (impl_in_eq ..) ?_)
      by_cases g1 : In (rd_T75 q (i : Int)).f1 0 ((i : Int) + 1) = true
      · refine Ev.pos g1 (Ev.bindE (impl_in_eq ..) ?_)
        by_cases g2 : In (rd_T75 q (i : Int)).f2 0 ((i : Int) + 1) = true
        · have e : nodeB (v : Int) q i = true := by unfold nodeB; rw [g0, g1, g2]; rfl
          rw [e, Bool.true_and] at hR ⊢
          exact Ev.pos g2 (ih R (by omega) hR)
        · refine Ev.neg g2 (Ev.at_ (Ev.now _) ?_); unfold nodeB; rw [Bool.eq_false_iff.mpr g2]; simp
      · refine Ev.neg g1 (Ev.at_ (Ev.now _) ?_); unfold nodeB; rw [Bool.eq_false_iff.mpr g1]; simp
    · refine Ev.neg g0 (Ev.at_ (Ev.now _) ?_); unfold nodeB; rw [Bool.eq_false_iff.mpr g0]; simp
theorem goodI_ev (a : Int) (q : List S75) (c : Int) (hl : q.length ≤ 1048576) : Ev (fun k => impl_GoodDiagram.f k a q c) (goodD a q c) := by
  have bad : okD a q c = false → ∀ b, b = true → Ev (fun k => impl_GoodDiagram.j0 k b a q c) (goodD a q c) := fun ho b hb => by
    rw [hb]; exact Ev.step (fun k => impl_GoodDiagram.j0.eq_2 ..) (Ev.pos rfl (Ev.at_ (Ev.now _) (by unfold goodD; rw [ho]; rfl)))
  unfold impl_GoodDiagram.f
  refine Ev.bindE (impl_in_eq ..) ?_
  by_cases h1 : In a 0 6 = true
  · refine Ev.pos h1 ?_
    by_cases h2 : q.length ≤ 64
    · refine Ev.neg (by omega) (Ev.bindE (impl_in_eq ..) ?_)
      rw [wrap_id _ (by omega) (by omega)]
      by_cases h3 : In c 0 ((q.length : Int) + 1) = true
      · rw [h3]
        obtain ⟨v, rfl⟩ := Int.eq_ofNat_of_zero_le (In_true.1 h1).1
        have hv : v ≤ 6 := by have := In_true.1 h1; omega
        have hc := In_true.1 h3
        have h6 := pow6 v hv
        have e : okD (v : Int) q c = nodesFrom (v : Int) q q.length 0 := by unfold okD; rw [h1, h3, decide_eq_true h2]; rfl
        refine Ev.step (fun k => impl_GoodDiagram.j0.eq_2 ..) (Ev.neg (by simp) (Ev.at_ (goodI_loop v q h2 hv c q.length 0 ((bld v 1 (tblP v q c) []).1 == c && eqL (bld v 1 (tblP v q c) []).2 q) (by omega) (fun hn => ?_)) (by unfold goodD; rw [e]; rfl)))
        refine Ev.bind (table_ev v q h2 hv (fun i hi => nodesFrom_at _ q q.length 0 i hn (by omega) (by omega)) c hc.1 hc.2) (Ev.bind (diagram_ev v hv _ (tblP_len v q c)) ?_)
        have hb := bld_len v 1 (tblP v q c) []
        have hb2 : (bld v 1 (tblP v q c) []).2.length ≤ 1048576 := by rw [List.length_nil] at hb; omega
        by_cases hr : (bld v 1 (tblP v q c) []).1 = c
        · refine Ev.pos hr (Ev.bind (equalN_ev _ q hb2) (Ev.at_ (Ev.now _) ?_)); rw [beq_iff_eq.mpr hr]; rfl
        · refine Ev.neg hr (Ev.at_ (Ev.now _) ?_); rw [beq_eq_false_iff_ne.mpr hr]; rfl
      · exact bad (by unfold okD; rw [Bool.eq_false_iff.mpr h3]; simp) _ (by rw [Bool.eq_false_iff.mpr h3]; rfl)
    · exact Ev.pos (by omega) (bad (by unfold okD; rw [decide_eq_false h2]; simp) _ rfl)
  · exact Ev.neg h1 (bad (by unfold okD; rw [Bool.eq_false_iff.mpr h1]; simp) _ rfl)
theorem goodS_loop (x q : List S75) (h : x.length = q.length) (hl : x.length ≤ 1048576) (a c : Int) : ∀ (d i : Nat), i + d = x.length → Ev (fun k => spec_GoodDiagram.l0 k x (x.length : Int) (i : Int) a q c) (eqL (x.drop i) (q.drop i))
  | 0, i, hi => by
    rw [List.drop_eq_nil_of_le (by omega), List.drop_eq_nil_of_le (by omega)]
    exact Ev.step (fun k => spec_GoodDiagram.l0.eq_2 ..) (Ev.neg (by omega) (Ev.now _))
  | d + 1, i, hi => by
    refine Ev.step (fun k => spec_GoodDiagram.l0.eq_2 ..) (Ev.pos (by omega) (Ev.pos (by omega) (Ev.pos (by omega) (Ev.pos (by omega) ?_))))
    rw [Nodeb_nat x i (by omega), Nodeb_nat q i (by omega), w1 i (by omega), List.drop_eq_getElem_cons (show i < x.length by omega), List.drop_eq_getElem_cons (show i < q.length by omega)]
    have e : (!(q[i].f0 == x[i].f0) || (!(q[i].f1 == x[i].f1) || !(q[i].f2 == x[i].f2))) = !(eqN x[i] q[i]) := by rw [eqN_comm]; unfold eqN; simp only [Bool.not_and]
    rw [e]
    unfold eqL
    by_cases hx : eqN x[i] q[i] = true
    · rw [hx, Bool.true_and]; exact Ev.neg (by simp) (goodS_loop x q h hl a c d (i + 1) (by omega))
    · rw [Bool.eq_false_iff.mpr hx, Bool.false_and]; exact Ev.pos (by simp) (Ev.now _)
theorem goodS_ev (a : Int) (q : List S75) (c : Int) (hl : q.length ≤ 1048576) : Ev (fun k => spec_GoodDiagram.f k a q c) (goodD a q c) := by
  unfold spec_GoodDiagram.f
  refine Ev.bind (l7Table_ev a q c hl) ?_
  by_cases ho : okD a q c = true
  · rw [if_pos ho]
    obtain ⟨v, rfl, hv, hq, _, _, _⟩ := okD_at ho
    have h6 := pow6 v hv
    have hb := bld_len v 1 (tblP v q c) []
    have hb2 : (bld v 1 (tblP v q c) []).2.length ≤ 1048576 := by rw [List.length_nil] at hb; omega
    have bad : ((bld v 1 (tblP v q c) []).1 == c && eqL (bld v 1 (tblP v q c) []).2 q) = false → ∀ b, b = true → ∀ z1 z2 z3, Ev (fun k => spec_GoodDiagram.j0 k b (v : Int) q c z1 z2 z3) (goodD (v : Int) q c) := fun hg b hb z1 z2 z3 => by
      rw [hb]; refine Ev.step (fun k => spec_GoodDiagram.j0.eq_2 ..) (Ev.pos rfl (Ev.at_ (Ev.now _) ?_))
      unfold goodD; rw [ho, Bool.true_and]; exact hg.symm
    refine Ev.pos rfl (Ev.bind (l7Of_ev v hv (tblP v q c) (tblP_len v q c)) ?_)
    by_cases hr : (bld v 1 (tblP v q c) []).1 = c
    · refine Ev.pos hr ?_
      by_cases hn : (bld v 1 (tblP v q c) []).2.length = q.length
      · simp only
        rw [show (((bld v 1 (tblP v q c) []).2.length : Int) != (q.length : Int)) = false by simp [hn]]
        refine Ev.step (fun k => spec_GoodDiagram.j0.eq_2 ..) (Ev.neg (by simp) ?_)
        have := goodS_loop (bld v 1 (tblP v q c) []).2 q hn hb2 (v : Int) c (bld v 1 (tblP v q c) []).2.length 0 (by omega)
        rw [List.drop_zero, List.drop_zero] at this
        refine Ev.at_ this ?_
        unfold goodD; rw [ho, Bool.true_and, Int.toNat_natCast, beq_iff_eq.mpr hr, Bool.true_and]
      · exact bad (by rw [eqL_len hn, Bool.and_false]) _ (by simp; omega) _ _ _
    · exact Ev.neg hr (bad (by rw [beq_eq_false_iff_ne.mpr hr]; rfl) _ rfl _ _ _)
  · rw [if_neg ho]
    refine Ev.neg (by simp) (Ev.at_ (Ev.now _) ?_)
    unfold goodD; rw [Bool.eq_false_iff.mpr ho]; rfl
theorem tableS_ev (a : Int) (q : List S75) (c : Int) (hl : q.length ≤ 1048576) : Ev (fun k => spec_TableOf.f k a q c) (if goodD a q c = true then (tblP a.toNat q c, true) else ([], false)) := by
  unfold spec_TableOf.f
  refine Ev.bind (goodS_ev a q c hl) ?_
  by_cases hg : goodD a q c = true
  · rw [if_pos hg]
    refine Ev.pos hg (Ev.bind (l7Table_ev a q c hl) ?_)
    rw [if_pos (goodD_ok hg)]; exact Ev.now _
  · rw [if_neg hg]; exact Ev.neg hg (Ev.now _)
def cnt : List Bool → Nat
  | [] => 0
  | b :: t => if b = true then cnt t + 1 else cnt t
theorem cnt_le : ∀ t : List Bool, cnt t ≤ t.length
  | [] => by simp [cnt]
  | b :: t => by have := cnt_le t; unfold cnt; split <;> simp <;> omega
theorem onesI_loop (t : List Bool) (hl : t.length ≤ 1048576) : ∀ (d i m : Nat), i + d = t.length → m ≤ i → Ev (fun k => impl_OnesOf.l0 k (m : Int) t (t.length : Int) (i : Int)) (((m + cnt (t.drop i) : Nat) : Int), true)
  | 0, i, m, h, hm => by
    rw [List.drop_eq_nil_of_le (by omega)]
    exact Ev.step (fun k => impl_OnesOf.l0.eq_2 ..) (Ev.neg (by omega) (Ev.at_ (Ev.now _) (by simp [cnt])))
  | d + 1, i, m, h, hm => by
    refine Ev.step (fun k => impl_OnesOf.l0.eq_2 ..) (Ev.pos (by omega) (Ev.pos (by omega) (Ev.pos (by omega) ?_)))
    rw [rdOf_nat false t i (by omega), w1 i (by omega), w1 m (by omega), List.drop_eq_getElem_cons (show i < t.length by omega)]
    unfold cnt
    by_cases hb : t[i] = true
    · rw [if_pos hb]; exact Ev.pos hb (Ev.at_ (onesI_loop t hl d (i + 1) (m + 1) (by omega) (by omega)) (by rw [show m + 1 + cnt (t.drop (i + 1)) = m + (cnt (t.drop (i + 1)) + 1) by omega]))
    · rw [if_neg hb]; exact Ev.neg hb (onesI_loop t hl d (i + 1) m (by omega) (by omega))
theorem bitM_nat (n j : Nat) (hn : n < 4611686018427387904) (hj : j ≤ 60) : bitM (n : Int) j = n.testBit j := by
  have hb : IntKind.i64.bits = 64 := rfl
  have e : shr .i64 (n : Int) (j : Int) = ((n / 2 ^ j : Nat) : Int) := by
    unfold shr
    rw [Int.toNat_natCast, hb, Nat.min_eq_left (by omega)]
    first | (rw [show ((2 : Int) ^ j) = ((2 ^ j : Nat) : Int) by rw [Int.natCast_pow]; rfl]; rfl) | (simp [Int.shiftRight_eq_div_pow]) | (norm_cast)
  unfold bitM
  rw [e]
  have h1 : n / 2 ^ j ≤ n := Nat.div_le_self _ _
  have := bits_and (n / 2 ^ j) 1 (by omega) (by omega)
  rw [show ((1 : Nat) : Int) = 1 from rfl] at this
  rw [this, Nat.and_one_is_mod, Nat.testBit_eq_decide_div_mod_eq, Bool.eq_iff_iff, beq_iff_eq, decide_eq_true_eq]
  omega
theorem evAll {α : Type} {P : Nat → Nat → Option α} {β : Nat → α} : ∀ N : Nat, (∀ i, i < N → Ev (fun k => P k i) (β i)) → ∃ K, ∀ k, K ≤ k → ∀ i, i < N → P k i = some (β i)
  | 0, _ => ⟨0, fun _ _ i hi => absurd hi (Nat.not_lt_zero i)⟩
  | N + 1, h => by
    obtain ⟨K, hK⟩ := evAll N (fun i hi => h i (by omega))
    obtain ⟨K2, hK2⟩ := h N (by omega)
    refine ⟨max K K2, fun k hk i hi => ?_⟩
    by_cases e : i = N
    · rw [e]; exact hK2 k (by omega)
    · exact hK k (by omega) i (by omega)
theorem impl_BothOf_ml (p : Int → Option Bool) (N : Nat) (hN : N ≤ 1048576) (β : Nat → Bool) (hp : ∀ i : Nat, i < N → p (i : Int) = some (β i)) : ∀ (d i : Nat) (out : List Bool) (k : Nat), i + d = N → d < k → out.length ≤ i → impl_BothOf.ml k p (N : Int) out (i : Int) = some (out ++ (List.range' i d).map β)
  | 0, i, out, k, h, hk, ho => by
    obtain ⟨k, rfl⟩ : ∃ m, k = m + 1 := ⟨k - 1, by omega⟩
    unfold impl_BothOf.ml; rw [if_neg (by omega)]; simp
  | d + 1, i, out, k, h, hk, ho => by
    obtain ⟨k, rfl⟩ : ∃ m, k = m + 1 := ⟨k - 1, by omega⟩
    unfold impl_BothOf.ml
    rw [if_pos (by omega), hp i (by omega), Option.bind_some, if_pos (by omega), w1 i (by omega), impl_BothOf_ml p N hN β hp d (i + 1) (out ++ [β i]) k (by omega) (by omega) (by simp; omega)]
    simp [List.range'_succ]
theorem impl_FixVar_ml (p : Int → Option Bool) (N : Nat) (hN : N ≤ 1048576) (β : Nat → Bool) (hp : ∀ i : Nat, i < N → p (i : Int) = some (β i)) : ∀ (d i : Nat) (out : List Bool) (k : Nat), i + d = N → d < k → out.length ≤ i → impl_FixVar.ml k p (N : Int) out (i : Int) = some (out ++ (List.range' i d).map β)
  | 0, i, out, k, h, hk, ho => by
    obtain ⟨k, rfl⟩ : ∃ m, k = m + 1 := ⟨k - 1, by omega⟩
    unfold impl_FixVar.ml; rw [if_neg (by omega)]; simp
  | d + 1, i, out, k, h, hk, ho => by
    obtain ⟨k, rfl⟩ : ∃ m, k = m + 1 := ⟨k - 1, by omega⟩
    unfold impl_FixVar.ml
    rw [if_pos (by omega), hp i (by omega), Option.bind_some, if_pos (by omega), w1 i (by omega), impl_FixVar_ml p N hN β hp d (i + 1) (out ++ [β i]) k (by omega) (by omega) (by simp; omega)]
    simp [List.range'_succ]
theorem impl_ByClauses_ml (p : Int → Option Bool) (N : Nat) (hN : N ≤ 1048576) (β : Nat → Bool) (hp : ∀ i : Nat, i < N → p (i : Int) = some (β i)) : ∀ (d i : Nat) (out : List Bool) (k : Nat), i + d = N → d < k → out.length ≤ i → impl_ByClauses.ml k p (N : Int) out (i : Int) = some (out ++ (List.range' i d).map β)
  | 0, i, out, k, h, hk, ho => by
    obtain ⟨k, rfl⟩ : ∃ m, k = m + 1 := ⟨k - 1, by omega⟩
    unfold impl_ByClauses.ml; rw [if_neg (by omega)]; simp
  | d + 1, i, out, k, h, hk, ho => by
    obtain ⟨k, rfl⟩ : ∃ m, k = m + 1 := ⟨k - 1, by omega⟩
    unfold impl_ByClauses.ml
    rw [if_pos (by omega), hp i (by omega), Option.bind_some, if_pos (by omega), w1 i (by omega), impl_ByClauses_ml p N hN β hp d (i + 1) (out ++ [β i]) k (by omega) (by omega) (by simp; omega)]
    simp [List.range'_succ]
theorem impl_BothOf_mapf (v : Nat) (hv : v ≤ 6) (P : Nat → Int → Option Bool) (β : Nat → Bool) (hP : ∀ i : Nat, i < 2 ^ v → Ev (fun k => P k (i : Int)) (β i)) : Ev (fun k => impl_BothOf.mapf k (P k) (v : Int)) ((v : Int), (bld v 1 ((List.range (2 ^ v)).map β) []).2, (bld v 1 ((List.range (2 ^ v)).map β) []).1) := by
  have h6 := pow6 v hv
  unfold impl_BothOf.mapf
  refine Ev.pos (by omega) ?_
  rw [shl_one v (by omega)]
  obtain ⟨K, hK⟩ := evAll (2 ^ v) hP
  have hml : Ev (fun k => impl_BothOf.ml k (P k) ((2 ^ v : Nat) : Int) [] 0) ((List.range (2 ^ v)).map β) :=
    ⟨max K (2 ^ v + 1), fun k hk => by
      have h := impl_BothOf_ml (P k) (2 ^ v) (by omega) β (hK k (by omega)) (2 ^ v) 0 [] k (by omega) (by omega) (by simp)
      rw [List.nil_append, ← List.range_eq_range'] at h
      exact h⟩
  exact Ev.bind hml (diagram_ev v hv _ (by simp))
theorem impl_FixVar_mapf (v : Nat) (hv : v ≤ 6) (P : Nat → Int → Option Bool) (β : Nat → Bool) (hP : ∀ i : Nat, i < 2 ^ v → Ev (fun k => P k (i : Int)) (β i)) : Ev (fun k => impl_FixVar.mapf k (P k) (v : Int)) ((v : Int), (bld v 1 ((List.range (2 ^ v)).map β) []).2, (bld v 1 ((List.range (2 ^ v)).map β) []).1) := by
  have h6 := pow6 v hv
  unfold impl_FixVar.mapf
  refine Ev.pos (by omega) ?_
  rw [shl_one v (by omega)]
  obtain ⟨K, hK⟩ := evAll (2 ^ v) hP
  have hml : Ev (fun k => impl_FixVar.ml k (P k) ((2 ^ v : Nat) : Int) [] 0) ((List.range (2 ^ v)).map β) :=
    ⟨max K (2 ^ v + 1), fun k hk => by
      have h := impl_FixVar_ml (P k) (2 ^ v) (by omega) β (hK k (by omega)) (2 ^ v) 0 [] k (by omega) (by omega) (by simp)
      rw [List.nil_append, ← List.range_eq_range'] at h
      exact h⟩
  exact Ev.bind hml (diagram_ev v hv _ (by simp))
theorem impl_ByClauses_mapf (v : Nat) (hv : v ≤ 6) (P : Nat → Int → Option Bool) (β : Nat → Bool) (hP : ∀ i : Nat, i < 2 ^ v → Ev (fun k => P k (i : Int)) (β i)) : Ev (fun k => impl_ByClauses.mapf k (P k) (v : Int)) ((v : Int), (bld v 1 ((List.range (2 ^ v)).map β) []).2, (bld v 1 ((List.range (2 ^ v)).map β) []).1) := by
  have h6 := pow6 v hv
  unfold impl_ByClauses.mapf
  refine Ev.pos (by omega) ?_
  rw [shl_one v (by omega)]
  obtain ⟨K, hK⟩ := evAll (2 ^ v) hP
  have hml : Ev (fun k => impl_ByClauses.ml k (P k) ((2 ^ v : Nat) : Int) [] 0) ((List.range (2 ^ v)).map β) :=
    ⟨max K (2 ^ v + 1), fun k hk => by
      have h := impl_ByClauses_ml (P k) (2 ^ v) (by omega) β (hK k (by omega)) (2 ^ v) 0 [] k (by omega) (by omega) (by simp)
      rw [List.nil_append, ← List.range_eq_range'] at h
      exact h⟩
  exact Ev.bind hml (diagram_ev v hv _ (by simp))
def fixI (so : Bool) (b i : Nat) : Nat := if so = true then i ||| b else andn i b
theorem fixI_lt (so : Bool) (v b i : Nat) (hi : i < 2 ^ v) (hb : b < 2 ^ v) : fixI so b i < 2 ^ v := by
  unfold fixI; split
  · exact Nat.or_lt_two_pow hi hb
  · exact Nat.lt_of_le_of_lt (andn_le _ _) hi
theorem fixS_loop (v : Nat) (hv : v ≤ 6) (so : Bool) (b : Nat) (hb : b < 2 ^ v) (q : List S75) (c : Int) : ∀ (d i : Nat) (acc : List Bool), acc.length ≤ i → i + d = 2 ^ v → acc ++ (List.range' i d).map (fun j => evP q (bitB (fixI so b j)) 64 c) = (List.range (2 ^ v)).map (fun j => evP q (bitB (fixI so b j)) 64 c) → Ev (fun k => spec_FixVar.l0 k so (tblP v q c) (b : Int) acc ((2 ^ v : Nat) : Int) (i : Int) (v : Int) q c) ((v : Int), (bld v 1 ((List.range (2 ^ v)).map (fun j => evP q (bitB (fixI so b j)) 64 c)) []).2, (bld v 1 ((List.range (2 ^ v)).map (fun j => evP q (bitB (fixI so b j)) 64 c)) []).1, true)
  | 0, i, acc, ha, h, e => by
    have e' : acc = (List.range (2 ^ v)).map (fun j => evP q (bitB (fixI so b j)) 64 c) := by rw [← e]; simp
    rw [e']
    exact Ev.step (fun k => spec_FixVar.l0.eq_2 ..) (Ev.neg (by omega) (Ev.bind (l7Of_ev v hv _ (by simp)) (Ev.now _)))
  | d + 1, i, acc, ha, h, e => by
    have h6 := pow6 v hv
    have hlt := fixI_lt so v b i (by omega) hb
    have ih := fixS_loop v hv so b hb q c d (i + 1) (acc ++ [evP q (bitB (fixI so b i)) 64 c]) (by simp; omega) (by omega) (by rw [← e, List.range'_succ]; simp)
    have hr : rdOf false (tblP v q c) ((fixI so b i : Nat) : Int) = evP q (bitB (fixI so b i)) 64 c := by
      rw [rdOf_nat false _ _ (by rw [tblP_len]; exact hlt)]; simp [tblP]
    refine Ev.step (fun k => spec_FixVar.l0.eq_2 ..) (Ev.pos (by omega) ?_)
    rw [bits_or i b (by omega) (by omega), bits_andNot i b (by omega) (by omega), w1 i (by omega)]
    by_cases hs : so = true
    · have ef : fixI so b i = i ||| b := by unfold fixI; rw [if_pos hs]
      rw [ef] at ih hr hlt
      refine Ev.pos hs (Ev.pos (by omega) (Ev.pos (by rw [tblP_len]; omega) (Ev.pos (by omega) ?_)))
      rw [hr]; exact ih
    · have ef : fixI so b i = andn i b := by unfold fixI; rw [if_neg hs]
      rw [ef] at ih hr hlt
      refine Ev.neg hs (Ev.pos (by omega) (Ev.pos (by rw [tblP_len]; omega) (Ev.pos (by omega) ?_)))
      rw [hr]; exact ih
theorem fixVar_both (a : Int) (q : List S75) (c x : Int) (so : Bool) (hx : (Lit.int .i64 x).wf = true) (hl : q.length ≤ 1048576) : Both (fun r => r.2.1.length ≤ 64) (fun k => spec_FixVar.f k a q c x so) (fun k => impl_FixVar.f k a q c x so) := by
  unfold spec_FixVar.f impl_FixVar.f
  have bad : ∀ t b, b = true → Both (fun r : Int × List S75 × Int × Bool => r.2.1.length ≤ 64) (fun k => spec_FixVar.j0 k x so t b a q c) (fun _ => some (0, [], 0, false)) := fun t b hb => by
    rw [hb]; exact Both.stepL (fun k => spec_FixVar.j0.eq_2 ..) (Both.posL rfl (Both.now _ (by simp)))
  refine Both.bindL (tableS_ev a q c hl) (Both.bindR (goodI_ev a q c hl) ?_)
  by_cases hg : goodD a q c = true
  · rw [if_pos hg]
    obtain ⟨v, rfl, hv, hq, h1, h2, h3⟩ := okD_at (goodD_ok hg)
    have h6 := pow6 v hv
    refine Both.posL rfl (Both.posR hg (Both.bindEL (spec_l1In_eq ..) (Both.bindER (impl_in_eq ..) ?_)))
    by_cases hi : In x 1 (v : Int) = true
    · rw [hi]
      have hxi := In_true.1 hi
      obtain ⟨n, hn⟩ := Int.eq_ofNat_of_zero_le (show 0 ≤ x - 1 by omega)
      have hnv : n < v := by omega
      have hbv : 2 ^ n < 2 ^ v := Nat.pow_lt_pow_right (by decide) hnv
      refine Both.posR rfl (Both.stepL (fun k => spec_FixVar.j0.eq_2 ..) (Both.negL (by simp) ?_))
      rw [wrap_id (x - 1) (by omega) (by omega), hn, u64_nat n (by omega), shl_one n (by omega)]
      refine Both.posL (by omega) (Both.posR (by omega) ?_)
      have hs := fixS_loop v hv so (2 ^ n) hbv q c (2 ^ v) 0 [] (by simp) (by omega) (by rw [List.nil_append, ← List.range_eq_range'])
      have hm := impl_FixVar_mapf v hv (fun k => impl_FixVar.pr k (v : Int) q c so ((2 ^ n : Nat) : Int)) (fun i => evP q (bitB (fixI so (2 ^ n) i)) 64 c) (fun i hi2 => by
        unfold impl_FixVar.pr
        have hlt := fixI_lt so v (2 ^ n) i hi2 hbv
        rw [bits_or i (2 ^ n) (by omega) (by omega), bits_andNot i (2 ^ n) (by omega) (by omega)]
        by_cases hso : so = true
        · have ef : fixI so (2 ^ n) i = i ||| 2 ^ n := by unfold fixI; rw [if_pos hso]
          rw [ef]; exact Ev.pos hso (value_ev v q hq hv h3 (v : Int) c _ h1 h2)
        · have ef : fixI so (2 ^ n) i = andn i (2 ^ n) := by unfold fixI; rw [if_neg hso]
          rw [ef]; exact Ev.neg hso (value_ev v q hq hv h3 (v : Int) c _ h1 h2))
      have hb := bld_len v 1 ((List.range (2 ^ v)).map (fun i => evP q (bitB (fixI so (2 ^ n) i)) 64 c)) []
      rw [List.length_nil] at hb
      refine Both.bindR hm ⟨_, ?_, Ev.now _, ?_⟩
      · simp only [Int.toNat_natCast, tblP_len]; exact hs
      · simp only; omega
    · rw [Bool.eq_false_iff.mpr hi]
      exact Both.negR (by simp) (bad _ _ rfl)
  · rw [if_neg hg]
    exact Both.negL (by simp) (Both.negR hg (bad _ _ rfl))
theorem bothS_loop (v : Nat) (hv : v ≤ 6) (q : List S75) (c : Int) (y T : List Bool) (hy : y.length = 2 ^ v) : ∀ (d i : Nat) (acc : List Bool), acc.length = 2 ^ v → i + d = 2 ^ v → acc.take i ++ List.zipWith (fun a b => a && b) (acc.drop i) (y.drop i) = T → Ev (fun k => spec_BothOf.l0 k acc y ((2 ^ v : Nat) : Int) (i : Int) (v : Int) q c) ((v : Int), (bld v 1 T []).2, (bld v 1 T []).1, true)
  | 0, i, acc, ha, h, hT => by
    have e : acc = T := by rw [List.drop_eq_nil_of_le (by omega), List.take_of_length_le (by omega)] at hT; simpa using hT
    rw [← e]
    exact Ev.step (fun k => spec_BothOf.l0.eq_2 ..) (Ev.neg (by omega) (Ev.bind (l7Of_ev v hv acc ha) (Ev.now _)))
  | d + 1, i, acc, ha, h, hT => by
    have h6 := pow6 v hv
    have hi : i < acc.length := by omega
    have hi2 : i < y.length := by omega
    rw [List.drop_eq_getElem_cons hi, List.drop_eq_getElem_cons hi2, List.zipWith_cons_cons] at hT
    have ih := bothS_loop v hv q c y T hy d (i + 1) (acc.set i (acc[i] && y[i])) (by simpa using ha) (by omega) (by
      rw [set_take _ _ _ hi, List.drop_set_of_lt (by omega), List.append_assoc]; exact hT)
    refine Ev.step (fun k => spec_BothOf.l0.eq_2 ..) (Ev.pos (by omega) (Ev.pos (by omega) (Ev.pos (by omega) ?_)))
    rw [rdOf_nat false acc i hi, rdOf_nat false y i hi2, w1 i (by omega), Int.toNat_natCast]
    by_cases hb : acc[i] = true
    · rw [hb, Bool.true_and] at ih
      exact Ev.pos hb (Ev.pos (by omega) ih)
    · rw [Bool.eq_false_iff.mpr hb, Bool.false_and] at ih
      exact Ev.neg hb ih
theorem zip_tbl (v : Nat) (q q' : List S75) (c c' : Int) : List.zipWith (fun a b => a && b) (tblP v q c) (tblP v q' c') = (List.range (2 ^ v)).map (fun i => evP q (bitB i) 64 c && evP q' (bitB i) 64 c') := by
  unfold tblP
  rw [List.zipWith_map, List.zipWith_self]
theorem pow_inj {a b : Nat} (h : 2 ^ a = 2 ^ b) : a = b := by
  rcases Nat.lt_trichotomy a b with h1 | h1 | h1
  · have := Nat.pow_lt_pow_right (a := 2) (by decide) h1; omega
  · exact h1
  · have := Nat.pow_lt_pow_right (a := 2) (by decide) h1; omega
theorem bothI_mapf (v : Nat) (hv : v ≤ 6) (q q' : List S75) (c c' : Int) (hq : q.length ≤ 64) (h1 : 0 ≤ c) (h2 : c ≤ (q.length : Int) + 1) (h3 : ∀ i, i < q.length → nodeB (v : Int) q i = true) (hq' : q'.length ≤ 64) (h1' : 0 ≤ c') (h2' : c' ≤ (q'.length : Int) + 1) (h3' : ∀ i, i < q'.length → nodeB (v : Int) q' i = true) : Ev (fun k => impl_BothOf.mapf k (impl_BothOf.pr k (v : Int) q c (v : Int) q' c') (v : Int)) ((v : Int), (bld v 1 (List.zipWith (fun a b => a && b) (tblP v q c) (tblP v q' c')) []).2, (bld v 1 (List.zipWith (fun a b => a && b) (tblP v q c) (tblP v q' c')) []).1) := by
  rw [zip_tbl]
  exact impl_BothOf_mapf v hv (fun k => impl_BothOf.pr k (v : Int) q c (v : Int) q' c') (fun i => evP q (bitB i) 64 c && evP q' (bitB i) 64 c') (fun i _ => by
      unfold impl_BothOf.pr
      refine Ev.bind (value_ev v q hq hv h3 (v : Int) c i h1 h2) ?_
      by_cases hb : evP q (bitB i) 64 c = true
      · refine Ev.pos hb (Ev.at_ (value_ev v q' hq' hv h3' (v : Int) c' i h1' h2') ?_); simp only [hb, Bool.true_and]
      · refine Ev.neg hb (Ev.at_ (Ev.now _) ?_); simp only [Bool.eq_false_iff.mpr hb, Bool.false_and])
theorem bothOf_both (a : Int) (q : List S75) (c b : Int) (p : List S75) (e : Int) (hl : q.length ≤ 1048576) (hl' : p.length ≤ 1048576) : Both (fun r => r.2.1.length ≤ 64) (fun k => spec_BothOf.f k a q c b p e) (fun k => impl_BothOf.f k a q c b p e) := by
  unfold spec_BothOf.f impl_BothOf.f
  have bad : ∀ x y z, z = true → Both (fun r : Int × List S75 × Int × Bool => r.2.1.length ≤ 64) (fun k => spec_BothOf.j0 k x y z a q c) (fun _ => some (0, [], 0, false)) := fun x y z hz => by
    rw [hz]; exact Both.stepL (fun k => spec_BothOf.j0.eq_2 ..) (Both.posL rfl (Both.now _ (by simp)))
  refine Both.bindL (tableS_ev a q c hl) (Both.bindL (tableS_ev b p e hl') (Both.bindR (goodI_ev a q c hl) ?_))
  by_cases hg : goodD a q c = true
  · rw [if_pos hg]
    refine Both.posL rfl (Both.posR hg (Both.bindR (goodI_ev b p e hl') ?_))
    by_cases hg' : goodD b p e = true
    · rw [if_pos hg']
      refine Both.posL rfl (Both.posR hg' ?_)
      obtain ⟨v, rfl, hv, hq, h1, h2, h3⟩ := okD_at (goodD_ok hg)
      obtain ⟨v', rfl, hv', hq', h1', h2', h3'⟩ := okD_at (goodD_ok hg')
      have h6 := pow6 v hv
      by_cases hvv : v = v'
      · subst hvv
        refine Both.posR rfl ?_
        have hT : (List.zipWith (fun a b => a && b) (tblP v q c) (tblP v p e)).length = 2 ^ v := by rw [List.length_zipWith, tblP_len, tblP_len]; omega
        have hb := bld_len v 1 (List.zipWith (fun a b => a && b) (tblP v q c) (tblP v p e)) []
        rw [List.length_nil] at hb
        have hm := bothI_mapf v hv q p c e hq h1 h2 h3 hq' h1' h2' h3'
        have hs := bothS_loop v hv q c (tblP v p e) (List.zipWith (fun a b => a && b) (tblP v q c) (tblP v p e)) (tblP_len v p e) (2 ^ v) 0 (tblP v q c) (tblP_len v q c) (by omega) (by rw [List.take_zero, List.drop_zero, List.drop_zero]; rfl)
        refine Both.bindR hm ⟨_, ?_, Ev.now _, by simp only; omega⟩
        simp only [Int.toNat_natCast, tblP_len]
        rw [show (((2 ^ v : Nat) : Int) != ((2 ^ v : Nat) : Int)) = false by simp]
        exact Ev.step (fun k => spec_BothOf.j0.eq_2 ..) (Ev.neg (by simp) (by rw [tblP_len]; exact hs))
      · refine Both.negR (by omega) (bad _ _ _ ?_)
        simp only [Int.toNat_natCast, tblP_len]
        rw [bne_iff_ne]
        intro hx
        exact hvv (pow_inj (by omega))
    · rw [if_neg hg']
      exact Both.negL (by simp) (Both.negR hg' (bad _ _ _ rfl))
  · rw [if_neg hg]
    exact Both.negL (by simp) (Both.negR hg (bad _ _ _ rfl))
def EvP {α : Type} (g : Nat → Option α) (P : α → Prop) : Prop := ∃ r, Ev g r ∧ P r
theorem EvP.now {α : Type} {P : α → Prop} (r : α) (h : P r) : EvP (fun _ => some r) P := ⟨r, Ev.now r, h⟩
theorem EvP.bind {α β : Type} {g : Nat → Option α} {f : Nat → α → Option β} {P : α → Prop} {Q : β → Prop} (h : EvP g P) (k : ∀ a, P a → EvP (fun n => f n a) Q) : EvP (fun n => (g n).bind (f n)) Q := by
  obtain ⟨a, h1, h2⟩ := h
  obtain ⟨r, h3, h4⟩ := k a h2
  exact ⟨r, Ev.bind h1 h3, h4⟩
theorem EvP.bindE {α β : Type} {g : Option α} {f : Nat → α → Option β} {P : α → Prop} {Q : β → Prop} (h : ∃ a, g = some a ∧ P a) (k : ∀ a, P a → EvP (fun n => f n a) Q) : EvP (fun n => g.bind (f n)) Q := by
  obtain ⟨a, rfl, h2⟩ := h; exact k a h2
theorem EvP.mono {α : Type} {g : Nat → Option α} {P Q : α → Prop} (h : EvP g P) (k : ∀ a, P a → Q a) : EvP g Q := by obtain ⟨a, h1, h2⟩ := h; exact ⟨a, h1, k a h2⟩
theorem EvP.ite {α : Type} {c : Prop} [Decidable c] {A B : Nat → Option α} {P : α → Prop} (h1 : c → EvP A P) (h2 : ¬ c → EvP B P) : EvP (fun k => if c then A k else B k) P := by
  by_cases h : c
  · obtain ⟨r, a, b⟩ := h1 h; exact ⟨r, Ev.pos h a, b⟩
  · obtain ⟨r, a, b⟩ := h2 h; exact ⟨r, Ev.neg h a, b⟩
theorem EvP.pos {α : Type} {c : Prop} [Decidable c] {A B : Nat → Option α} {P : α → Prop} (h : c) (e : EvP A P) : EvP (fun k => if c then A k else B k) P := EvP.ite (fun _ => e) (fun n => absurd h n)
theorem EvP.neg {α : Type} {c : Prop} [Decidable c] {A B : Nat → Option α} {P : α → Prop} (h : ¬ c) (e : EvP B P) : EvP (fun k => if c then A k else B k) P := EvP.ite (fun n => absurd n h) (fun _ => e)
theorem EvP.step {α : Type} {g f : Nat → Option α} {P : α → Prop} (h : ∀ k, g (k + 1) = f k) (e : EvP f P) : EvP g P := by obtain ⟨r, a, b⟩ := e; exact ⟨r, Ev.step h a, b⟩
theorem EvP.congr {α : Type} {g f : Nat → Option α} {P : α → Prop} (h : ∀ k, g k = f k) (e : EvP f P) : EvP g P := by obtain ⟨r, a, b⟩ := e; exact ⟨r, Ev.congr h a, b⟩
def Bytes (l : List Int) : Prop := l.length ≤ 1099511627776 ∧ ∀ y ∈ l, 0 ≤ y ∧ y ≤ 255
theorem Bytes.rd {l : List Int} (h : Bytes l) (i : Int) (h0 : 0 ≤ i) (h1 : i < (l.length : Int)) : 0 ≤ rd l i ∧ rd l i ≤ 255 := by
  obtain ⟨n, rfl⟩ := Int.eq_ofNat_of_zero_le h0
  have hn : n < l.length := by omega
  rw [rd_nat l n hn]
  exact h.2 _ (List.getElem_mem hn)
theorem u8_wf {y : Int} (h : (Lit.int .u8 y).wf = true) : 0 ≤ y ∧ y ≤ 255 := by
  have h' : (decide (IntKind.u8.min ≤ y) && decide (y ≤ IntKind.u8.max)) = true := h
  have e1 : IntKind.u8.min = 0 := by decide
  have e2 : IntKind.u8.max = 255 := by decide
  rw [e1, e2] at h'
  simpa using h'
def CurAt (a : Int) (n : Nat) : Prop := 0 ≤ a ∧ a ≤ n
theorem u64c (x : Int) : 0 ≤ wrap64 (Go.bits .and .u64 x 255) ∧ wrap64 (Go.bits .and .u64 x 255) ≤ 255 := by
  have h : Go.bits .and .u64 x 255 = IntKind.u64.wrap ((BitVec.ofInt 64 x &&& BitVec.ofInt 64 255).toNat : Int) := rfl
  have h2 : (BitVec.ofInt 64 x &&& BitVec.ofInt 64 255).toNat ≤ 255 := by
    rw [BitVec.toNat_and]
    exact Nat.and_le_right
  have h3 : ∀ n : Int, IntKind.u64.wrap n = n % 18446744073709551616 := fun n => by simp [IntKind.wrap, IntKind.bits, IntKind.signed]
  rw [h, h3]
  generalize (BitVec.ofInt 64 x &&& BitVec.ofInt 64 255).toNat = z at h2
  unfold wrap64
  omega
theorem next_ok {l : List Int} (hl : Bytes l) (a s : Int) (h0 : 0 ≤ a) (h1 : a ≤ 1152921504606846976) :
    ∃ r : Int × Int × Int, spec_l1Cur_next.f l a s = some r ∧ (0 ≤ r.1 ∧ r.1 ≤ 255 ∧ r.2.1 = a + 1) := by
  have ew : wrap64 (a + 1) = a + 1 := by unfold wrap64; omega
  unfold spec_l1Cur_next.f
  by_cases c1 : a < (l.length : Int)
  · have hr := hl.rd a h0 c1
    have er : wrap64 (rd l a) = rd l a := by unfold wrap64; omega
    rw [if_pos c1, if_pos h0, ew, if_pos (by omega)]
    exact ⟨_, rfl, by rw [er]; exact hr.1, by rw [er]; exact hr.2, rfl⟩
  · rw [if_neg c1, ew, if_neg (by omega)]
    exact ⟨_, rfl, (u64c _).1, (u64c _).2, rfl⟩
theorem tmod_lt {x n : Int} (h0 : 0 ≤ x) (hn : 0 < n) : 0 ≤ Int.tmod x n ∧ Int.tmod x n < n := by
  rw [Int.tmod_eq_emod_of_nonneg h0]
  exact ⟨Int.emod_nonneg _ (by omega), Int.emod_lt_of_pos _ hn⟩
theorem pick_ok {l : List Int} (hl : Bytes l) (a s n : Int) (h0 : 0 ≤ a) (h1 : a ≤ 1152921504606846975) :
    ∃ r : Int × Int × Int, spec_l1Cur_pick.f l a s n = some r ∧ (0 ≤ r.1 ∧ r.1 ≤ n - 1 ∨ r.1 = 0 ∧ n ≤ 1) ∧ a ≤ r.2.1 ∧ r.2.1 ≤ a + 2 := by
  unfold spec_l1Cur_pick.f
  by_cases c1 : n ≤ 1
  · rw [if_pos c1]; exact ⟨_, rfl, Or.inr ⟨rfl, c1⟩, Int.le_refl _, by show a ≤ a + 2; omega⟩
  · rw [if_neg c1]
    obtain ⟨r, hr, h2, h3, h4⟩ := next_ok hl a s h0 (by omega)
    rw [hr]; simp only [Option.bind_some]
    by_cases c2 : n > 200
    · rw [if_pos c2]
      obtain ⟨q, hq, h5, h6, h7⟩ := next_ok hl r.2.1 r.2.2 (by omega) (by omega)
      rw [hq]; simp only [Option.bind_some]
      rw [if_neg (by omega)]
      have e : wrap64 ((wrap64 (r.1 * 256)) + q.1) = r.1 * 256 + q.1 := by unfold wrap64; omega
      have := tmod_lt (x := r.1 * 256 + q.1) (n := n) (by omega) (by omega)
      refine ⟨_, rfl, Or.inl ?_, ?_, ?_⟩
      · rw [e]; omega
      · show a ≤ q.2.1; omega
      · show q.2.1 ≤ a + 2; omega
    · rw [if_neg c2, if_neg (by omega)]
      have := tmod_lt (x := r.1) (n := n) h2 (by omega)
      refine ⟨_, rfl, Or.inl ?_, ?_, ?_⟩
      · show 0 ≤ Int.tmod r.1 n ∧ Int.tmod r.1 n ≤ n - 1; omega
      · show a ≤ r.2.1; omega
      · show r.2.1 ≤ a + 2; omega
theorem one_ok {l : List Int} (hl : Bytes l) (a s n : Int) (h0 : 0 ≤ a) (h1 : a ≤ 1152921504606846975) :
    ∃ r : Bool × Int × Int, spec_l1Cur_one.f l a s n = some r ∧ a ≤ r.2.1 ∧ r.2.1 ≤ a + 2 := by
  unfold spec_l1Cur_one.f
  obtain ⟨r, hr, _, h2, h3⟩ := pick_ok hl a s n h0 h1
  rw [hr]; exact ⟨_, rfl, h2, h3⟩
theorem among_ok {l : List Int} (hl : Bytes l) (a s : Int) (xs : List Int) (hx : 0 < xs.length) (hx2 : xs.length ≤ 1000) (h0 : 0 ≤ a) (h1 : a ≤ 1152921504606846975) :
    ∃ r : Int × Int × Int, spec_l1Cur_among.f l a s xs = some r ∧ r.1 ∈ xs ∧ a ≤ r.2.1 ∧ r.2.1 ≤ a + 2 := by
  unfold spec_l1Cur_among.f
  obtain ⟨r, hr, h2, h3, h4⟩ := pick_ok hl a s (xs.length : Int) h0 h1
  rw [hr]; simp only [Option.bind_some]
  have hb : 0 ≤ r.1 ∧ r.1 < (xs.length : Int) := by omega
  rw [if_pos hb.1, if_pos hb.2]
  obtain ⟨n, hn⟩ := Int.eq_ofNat_of_zero_le hb.1
  refine ⟨_, rfl, ?_, h3, h4⟩
  show rd xs r.1 ∈ xs
  rw [hn, rd_nat xs n (by omega)]
  exact List.getElem_mem _
theorem numberOf_loop {l : List Int} (hl : Bytes l) : ∀ (d i : Nat) (n : Int), i + d = l.length → 0 ≤ n → n ≤ 1000002 → EvP (fun k => laws_numberOf.l0 k n l (l.length : Int) (i : Int)) (fun r => 0 ≤ r ∧ r ≤ 1000002)
  | 0, i, n, hi, h0, h1 => by
    refine EvP.step (fun k => laws_numberOf.l0.eq_2 ..) (EvP.neg (by omega) (EvP.now _ ⟨h0, h1⟩))
  | d + 1, i, n, hi, h0, h1 => by
    have hlt : i < l.length := by omega
    have hr := hl.rd (i : Int) (by omega) (by omega)
    have hL := hl.1
    have e1 : wrap64 (rd l (i : Int)) = rd l (i : Int) := by unfold wrap64; omega
    have e2 : wrap64 (31 * n) = 31 * n := by unfold wrap64; omega
    have e3 : wrap64 (31 * n + rd l (i : Int)) = 31 * n + rd l (i : Int) := by unfold wrap64; omega
    have e4 : wrap64 ((i : Int) + 1) = ((i + 1 : Nat) : Int) := w1 i (by omega)
    have hm := tmod_lt (x := 31 * n + rd l (i : Int)) (n := 1000003) (by omega) (by omega)
    refine EvP.step (fun k => laws_numberOf.l0.eq_2 ..) (EvP.pos (by omega) (EvP.pos (by omega) (EvP.pos (by omega) ?_)))
    rw [e1, e2, e3, e4]
    exact numberOf_loop hl d (i + 1) _ (by omega) hm.1 (by omega)
theorem bytes_of {l : List Int} (h : l.length * 1 ≤ 140737488351232 ∧ ∀ y0_ ∈ l, (Lit.int .u8 y0_).wf = true) (hs : l.length ≤ 1048576) : Bytes l := ⟨by omega, fun y hy => u8_wf (h.2 y hy)⟩
theorem small_of {l0 l1 : List Int} (h : ¬ (wrap64 ((l0.length : Int) + (l1.length : Int))) > 1048576) (h0 : l0.length * 1 ≤ 140737488351232) (h1 : l1.length * 1 ≤ 140737488351232) : l0.length ≤ 1048576 ∧ l1.length ≤ 1048576 := by
  have e : wrap64 ((l0.length : Int) + (l1.length : Int)) = (l0.length : Int) + (l1.length : Int) := by unfold wrap64; omega
  rw [e] at h; omega
def Mt (v m x : Int) : Prop := 0 ≤ x ∧ x ≤ 65535 ∧ Go.bits .andNot .i64 x m = v
def jm (a b c d : Nat) : Nat := (b ||| d) ||| (a ^^^ c)
def carryB (k x y e : Nat) : Bool := decide (2 ^ k ≤ x % 2 ^ k + y % 2 ^ k + e)
theorem table_draw {l : List Int} (hl : Bytes l) (v : Nat) (hv : v ≤ 6) (m B : Int) (hB : B ≤ 1000000) : ∀ (d i : Nat) (t : List Bool) (a s : Int), i + d = 2 ^ v → t.length = i → 0 ≤ a → a ≤ B + 2 * (i : Int) → EvP (fun k => spec_l1Cur_table.l0 k (v : Int) t m (i : Int) l a s) (fun r => r.1.length = 2 ^ v ∧ 0 ≤ r.2.1 ∧ r.2.1 ≤ B + 200)
  | 0, i, t, a, s, hd, ht, h0, h1 => by
    have h6 := pow6 v hv
    refine EvP.step (fun k => spec_l1Cur_table.l0.eq_2 ..) ?_
    rw [u64_nat v (by omega), shl_one v (by omega)]
    exact EvP.pos (by omega) (EvP.neg (by omega) (EvP.now _ ⟨by simp only; omega, h0, by simp only; omega⟩))
  | d + 1, i, t, a, s, hd, ht, h0, h1 => by
    have h6 := pow6 v hv
    refine EvP.step (fun k => spec_l1Cur_table.l0.eq_2 ..) ?_
    rw [u64_nat v (by omega), shl_one v (by omega)]
    refine EvP.pos (by omega) (EvP.pos (by omega) (EvP.bindE (one_ok hl a s m h0 (by omega)) fun r hr => EvP.pos (by omega) ?_))
    rw [w1 i (by omega)]
    exact table_draw hl v hv m B hB d (i + 1) _ _ _ (by omega) (by simp; omega) (by omega) (by omega)
theorem table_okB {l : List Int} (hl : Bytes l) (v : Nat) (hv : v ≤ 6) (a s : Int) (h0 : 0 ≤ a) (B : Int) (h1 : a ≤ B) (hB : B ≤ 100000) : EvP (fun k => spec_l1Cur_table.f k l a s (v : Int)) (fun r => r.1.length = 2 ^ v ∧ 0 ≤ r.2.1 ∧ r.2.1 ≤ B + 300) := by
  unfold spec_l1Cur_table.f
  refine EvP.bindE (pick_ok hl a s 3 h0 (by omega)) fun r hr => ?_
  exact (table_draw hl v hv _ (B + 100) (by omega) (2 ^ v) 0 [] _ _ (by omega) rfl (by omega) (by omega)).mono fun z hz => ⟨hz.1, hz.2.1, by have := hz.2.2; omega⟩
theorem diagramOfS (v : Nat) (hv : v ≤ 6) (t : List Bool) : Ev (fun k => spec_DiagramOf.f k (v : Int) t) (if t.length = 2 ^ v then ((v : Int), (bld v 1 t []).2, (bld v 1 t []).1, true) else (0, [], 0, false)) := by
  have h6 := pow6 v hv
  unfold spec_DiagramOf.f
  refine Ev.bindE (spec_l1In_eq ..) (Ev.pos (In_true.2 (by omega)) ?_)
  rw [u64_nat v (by omega), shl_one v (by omega)]
  refine Ev.pos (by omega) ?_
  by_cases ht : t.length = 2 ^ v
  · rw [if_pos ht]; exact Ev.pos (by omega) (Ev.bind (l7Of_ev v hv t ht) (Ev.now _))
  · rw [if_neg ht]; exact Ev.neg (by omega) (Ev.now _)
theorem diagram_drawB {l : List Int} (hl : Bytes l) (v : Nat) (hv : v ≤ 6) (a s : Int) (h0 : 0 ≤ a) (B : Int) (h1 : a ≤ B) (hB : B ≤ 100000) : EvP (fun k => spec_l1Cur_diagram.f k l a s (v : Int)) (fun r => r.2.1.length ≤ 100 ∧ 0 ≤ r.2.2.2.1 ∧ r.2.2.2.1 ≤ B + 320) := by
  unfold spec_l1Cur_diagram.f
  refine EvP.bind (table_okB hl v hv a s h0 B h1 hB) fun r hr => ?_
  have hd := diagramOfS v hv r.1
  rw [if_pos hr.1] at hd
  have h6 := pow6 v hv
  have hb := bld_len v 1 r.1 []
  rw [List.length_nil] at hb
  refine EvP.bind (P := fun d => d.2.1.length ≤ 64) ⟨_, hd, by simp only; omega⟩ fun d hd => ?_
  refine EvP.bindE (pick_ok hl _ _ 20 (by omega) (by omega)) fun r1 hr1 => EvP.ite (fun _ => ?_) (fun _ => EvP.ite (fun _ => ?_) (fun _ => EvP.now _ ?_))
  · refine EvP.bindE (pick_ok hl _ _ 5 (by omega) (by omega)) fun r2 hr2 => EvP.now _ ?_
    exact ⟨by simp only; omega, by simp only; omega, by simp only; omega⟩
  · refine EvP.bindE (pick_ok hl _ _ 4 (by omega) (by omega)) fun r2 hr2 => EvP.bindE (pick_ok hl _ _ 3 (by omega) (by omega)) fun r3 hr3 => EvP.bindE (pick_ok hl _ _ 3 (by omega) (by omega)) fun r4 hr4 => EvP.pos (by omega) (EvP.now _ ?_)
    exact ⟨by simp; omega, by simp only; omega, by simp only; omega⟩
  · exact ⟨by simp only; omega, by simp only; omega, by simp only; omega⟩
theorem diagram_draw {l : List Int} (hl : Bytes l) (v : Nat) (hv : v ≤ 6) (a s : Int) (h0 : 0 ≤ a) (h1 : a ≤ 900) : EvP (fun k => spec_l1Cur_diagram.f k l a s (v : Int)) (fun r => r.2.1.length ≤ 100 ∧ 0 ≤ r.2.2.2.1 ∧ r.2.2.2.1 ≤ 1220) := (diagram_drawB hl v hv a s h0 900 h1 (by omega)).mono fun z hz => ⟨hz.1, hz.2.1, by have := hz.2.2; omega⟩
theorem tdiv19 (m : Nat) (p : Int) (hm : m ≤ 4) (h0 : 0 ≤ p) (hp : p ≤ 19) : ∃ z : Nat, wrap64 ((m : Int) + wrap64 (Int.tdiv p 19)) = (z : Int) ∧ z ≤ 5 := by
  have h7 : Int.tdiv p 19 = p / 19 := Int.tdiv_eq_ediv_of_nonneg h0
  rw [h7, wrap_id (p / 19) (by omega) (by omega), wrap_id _ (by omega) (by omega)]
  obtain ⟨q, rfl⟩ := Int.eq_ofNat_of_zero_le h0
  exact ⟨m + q / 19, by omega, by omega⟩
theorem nat_pick {l : List Int} (hl : Bytes l) (a s n : Int) (hn : 1 ≤ n) (h0 : 0 ≤ a) (h1 : a ≤ 1152921504606846975) :
    ∃ (m : Nat) (a' s' : Int), spec_l1Cur_pick.f l a s n = some ((m : Int), a', s') ∧ (m : Int) ≤ n - 1 ∧ a ≤ a' ∧ a' ≤ a + 2 := by
  obtain ⟨⟨x, a', s'⟩, e, h2, h3, h4⟩ := pick_ok hl a s n h0 h1
  simp only at h2 h3 h4
  obtain ⟨m, rfl⟩ := Int.eq_ofNat_of_zero_le (show 0 ≤ x by omega)
  exact ⟨m, a', s', e, by omega, h3, h4⟩
theorem findP_at : ∀ (t : List S75) (n : S75) (i : Int), 0 ≤ i → ¬ findP t n i < 0 → ∃ (j : Nat) (h : j < t.length), findP t n i = i + (j : Int) ∧ t[j] = n
  | [], n, i, h, hf => absurd (show findP [] n i < 0 by unfold findP; omega) hf
  | x :: t, n, i, h, hf => by
    unfold findP at hf ⊢
    by_cases hx : eqN x n = true
    · rw [if_pos hx]; exact ⟨0, by simp, by omega, (eqN_iff x n).1 hx⟩
    · rw [if_neg hx] at hf ⊢
      obtain ⟨j, hj, e1, e2⟩ := findP_at t n (i + 1) (by omega) hf
      exact ⟨j + 1, by simp; omega, by rw [e1]; omega, by simpa using e2⟩
theorem rdN_app (q s : List S75) (i : Nat) (h : i < q.length) : rd_T75 (q ++ s) (i : Int) = rd_T75 q (i : Int) := by
  rw [Nodeb_nat _ i (by simp; omega), Nodeb_nat _ i h, List.getElem_append_left h]
theorem nodeB_app (a : Int) (q s : List S75) (i : Nat) (h : i < q.length) : nodeB a (q ++ s) i = nodeB a q i := by unfold nodeB; rw [rdN_app q s i h]
theorem evP_low (q : List S75) (β : Int → Bool) (m : Nat) (p : Int) (h : p ≤ 1) : evP q β m p = (p == 1) := by
  cases m with
  | zero => rfl
  | succ m => unfold evP; rw [if_neg (by omega)]
theorem evP_app (a : Int) (q s : List S75) (β : Int → Bool) (ok : ∀ i, i < q.length → nodeB a q i = true) : ∀ (m : Nat) (p : Int), p ≤ (q.length : Int) + 1 → evP (q ++ s) β m p = evP q β m p
  | 0, p, _ => rfl
  | m + 1, p, hp => by
    unfold evP
    by_cases h : p > 1
    · obtain ⟨i, hi⟩ := Int.eq_ofNat_of_zero_le (show 0 ≤ p - 2 by omega)
      have hg := ok i (by omega)
      unfold nodeB at hg
      simp only [Bool.and_eq_true, In_true] at hg
      rw [if_pos h, if_pos h, hi, rdN_app q s i (by omega)]
      split
      · exact evP_app a q s β ok m _ (by omega)
      · exact evP_app a q s β ok m _ (by omega)
    · rw [if_neg h, if_neg h]
def ix (β : Int → Bool) : Int → Nat → Nat
  | _, 0 => 0
  | v, n + 1 => (if β (v - 1) = true then 1 else 0) + 2 * ix β (v + 1) n
theorem halves_get : ∀ (t : List Bool) (i : Nat), (halves t).1.getD i false = t.getD (2 * i) false ∧ (halves t).2.getD i false = t.getD (2 * i + 1) false
  | [], i => by simp [halves]
  | x :: t, 0 => by
    have := (halves_get t 0).1
    exact ⟨rfl, by show (halves t).1.getD 0 false = t.getD 0 false; exact this⟩
  | x :: t, i + 1 => by
    have h1 := (halves_get t i).2
    have h2 := (halves_get t (i + 1)).1
    refine ⟨?_, ?_⟩
    · show (halves t).2.getD i false = _
      rw [h1, show 2 * (i + 1) = (2 * i + 1) + 1 by omega]; rfl
    · show (halves t).1.getD (i + 1) false = _
      rw [h2]; rfl
theorem rd_last (q : List S75) (n : S75) : rd_T75 (q ++ [n]) ((q.length : Nat) : Int) = n := by
  rw [Nodeb_nat _ q.length (by simp)]; simp
theorem bld_ok (a : Int) : ∀ (n : Nat) (v : Int) (t : List Bool) (q : List S75), t.length = 2 ^ n → (∀ i, i < q.length → nodeB a q i = true) → 1 ≤ v → v + n ≤ a + 1 →
    (∃ s, (bld n v t q).2 = q ++ s) ∧ (∀ i, i < (bld n v t q).2.length → nodeB a (bld n v t q).2 i = true) ∧ 0 ≤ (bld n v t q).1 ∧ (bld n v t q).1 ≤ ((bld n v t q).2.length : Int) + 1 ∧ ∀ (β : Int → Bool) (m : Nat), (bld n v t q).1 ≤ (m : Int) + 1 → evP (bld n v t q).2 β m (bld n v t q).1 = t.getD (ix β v n) false
  | 0, v, t, q, ht, hq, hv, hn => by
    have e1 : (bld 0 v t q).1 = if rdOf false t 0 = true then 1 else 0 := rfl
    have e2 : (bld 0 v t q).2 = q := rfl
    rw [e1, e2]
    have e3 : ∀ β, t.getD (ix β v 0) false = rdOf false t 0 := fun β => rfl
    refine ⟨⟨[], by simp⟩, hq, by split <;> omega, by split <;> omega, fun β m hm => ?_⟩
    rw [e3, evP_low _ _ _ _ (by split <;> omega)]
    cases rdOf false t 0 <;> rfl
  | n + 1, v, t, q, ht, hq, hv, hn => by
    have hh := halves_pow t n ht
    obtain ⟨⟨s1, x1⟩, x2, x3, x4, x5⟩ := bld_ok a n (v + 1) (halves t).1 q hh.1 hq (by omega) (by omega)
    obtain ⟨⟨s2, y1⟩, y2, y3, y4, y5⟩ := bld_ok a n (v + 1) (halves t).2 (bld n (v + 1) (halves t).1 q).2 hh.2 x2 (by omega) (by omega)
    have g1 := fun β => (halves_get t (ix β (v + 1) n)).1
    have g2 := fun β => (halves_get t (ix β (v + 1) n)).2
    have eix : ∀ β, ix β v (n + 1) = (if β (v - 1) = true then 1 else 0) + 2 * ix β (v + 1) n := fun β => rfl
    unfold bld
    by_cases hx : (halves t).1 = (halves t).2
    · rw [if_pos hx]
      refine ⟨⟨s1, x1⟩, x2, x3, x4, fun β m hm => ?_⟩
      rw [x5 β m hm, eix]
      by_cases hb : β (v - 1) = true
      · rw [if_pos hb, hx, g2, Nat.add_comm]
      · rw [if_neg hb, g1, Nat.zero_add]
    · rw [if_neg hx]
      generalize bld n (v + 1) (halves t).1 q = x at *
      generalize bld n (v + 1) (halves t).2 x.2 = y at *
      have key : ∀ (q' : List S75) (s : List S75) (i : Nat) (β : Int → Bool) (m : Nat), q' = y.2 ++ s → rd_T75 q' (i : Int) = ⟨v, x.1, y.1⟩ → x.1 ≤ (i : Int) + 1 → y.1 ≤ (i : Int) + 1 → (i : Int) + 2 ≤ (m : Int) + 1 → evP q' β m ((i : Int) + 2) = t.getD (ix β v (n + 1)) false := by
        intro q' s i β m e1 e2 c1 c2 hm
        obtain ⟨m, rfl⟩ : ∃ m', m = m' + 1 := ⟨m - 1, by omega⟩
        unfold evP
        rw [if_pos (by omega), show (i : Int) + 2 - 2 = (i : Int) by omega, e2, eix]
        simp only
        by_cases hb : β (v - 1) = true
        · rw [if_pos hb, if_pos hb, e1, evP_app a y.2 s β y2 m _ y4, y5 β m (by omega), g2, Nat.add_comm]
        · rw [if_neg hb, if_neg hb, e1, evP_app a y.2 s β y2 m _ (by rw [y1]; simp; omega), y1, evP_app a x.2 s2 β x2 m _ x4, x5 β m (by omega), g1, Nat.zero_add]
      by_cases hf : findP y.2 ⟨v, x.1, y.1⟩ 0 < 0
      · rw [if_pos hf]
        have hxl : x.1 ≤ (y.2.length : Int) + 1 := by rw [y1]; simp; omega
        refine ⟨⟨s1 ++ s2 ++ [⟨v, x.1, y.1⟩], by simp only; rw [y1, x1]; simp⟩, fun i hi => ?_, by simp only; omega, by simp; omega, fun β m hm => ?_⟩
        · simp only at hi ⊢
          by_cases hl : i < y.2.length
          · rw [nodeB_app a _ _ i hl]; exact y2 i hl
          · have hi' : i < y.2.length + 1 := by simpa using hi
            obtain rfl : i = y.2.length := by omega
            unfold nodeB
            rw [rd_last]
            simp only [Bool.and_eq_true, In_true]; omega
        · simp only at hm ⊢
          exact key _ [⟨v, x.1, y.1⟩] y.2.length β m rfl (rd_last _ _) hxl (by omega) hm
      · rw [if_neg hf]
        obtain ⟨j, hj, e1, e2⟩ := findP_at y.2 ⟨v, x.1, y.1⟩ 0 (by omega) hf
        rw [Int.zero_add] at e1
        have hr : rd_T75 y.2 (j : Int) = ⟨v, x.1, y.1⟩ := by rw [Nodeb_nat _ j hj]; exact e2
        have hg := y2 j hj
        unfold nodeB at hg
        rw [hr] at hg
        simp only [Bool.and_eq_true, In_true] at hg
        simp only
        rw [e1]
        refine ⟨⟨s1 ++ s2, by rw [y1, x1]; simp⟩, y2, by omega, by omega, fun β m hm => ?_⟩
        exact key y.2 [] j β m (by simp) hr (by omega) (by omega) hm
theorem ix_bits (β : Int → Bool) (k : Nat) : ∀ (n s : Nat), (∀ j : Nat, s ≤ j → j < s + n → β (j : Int) = k.testBit j) → ix β (1 + (s : Int)) n = (k / 2 ^ s) % 2 ^ n
  | 0, s, _ => by simp [ix, Nat.mod_one]
  | n + 1, s, h => by
    have ih := ix_bits β k n (s + 1) (fun j h1 h2 => h j (by omega) (by omega))
    have e : ix β (1 + (s : Int)) (n + 1) = (if β (1 + (s : Int) - 1) = true then 1 else 0) + 2 * ix β (1 + (s : Int) + 1) n := rfl
    rw [e, show (1 + (s : Int) - 1) = (s : Int) by omega, h s (by omega) (by omega), show (1 + (s : Int) + 1) = 1 + ((s + 1 : Nat) : Int) by omega, ih, Nat.testBit_eq_decide_div_mod_eq, Nat.pow_succ 2 s, ← Nat.div_div_eq_div_mul, Nat.pow_succ 2 n, Nat.mul_comm (2 ^ n) 2]
    generalize k / 2 ^ s = m
    rw [Nat.mod_mul]
    have : m % 2 = 0 ∨ m % 2 = 1 := by omega
    rcases this with h | h <;> simp [h]
theorem nodesFrom_of (a : Int) (q : List S75) : ∀ (d i : Nat), (∀ j, i ≤ j → j < i + d → nodeB a q j = true) → nodesFrom a q d i = true
  | 0, _, _ => rfl
  | d + 1, i, h => by
    unfold nodesFrom
    rw [h i (by omega) (by omega), nodesFrom_of a q d (i + 1) (fun j h1 h2 => h j (by omega) (by omega))]; rfl
theorem bld_val (v : Nat) (hv : v ≤ 6) (t : List Bool) (ht : t.length = 2 ^ v) (β : Int → Bool) (k : Nat) (hk : k < 2 ^ v) (hβ : ∀ j : Nat, j < v → β (j : Int) = k.testBit j) : evP (bld v 1 t []).2 β 64 (bld v 1 t []).1 = t.getD k false := by
  obtain ⟨_, h2, h3, h4, h5⟩ := bld_ok (v : Int) v 1 t [] ht (fun i hi => by simp at hi) (by omega) (by omega)
  have h6 := pow6 v hv
  have hb := bld_len v 1 t []
  rw [List.length_nil] at hb
  rw [h5 β 64 (by omega)]
  have := ix_bits β k v 0 (fun j _ hj => hβ j (by omega))
  rw [show (1 + ((0 : Nat) : Int)) = 1 from rfl, Nat.pow_zero, Nat.div_one, Nat.mod_eq_of_lt hk] at this
  rw [this]
theorem bld_tbl (v : Nat) (hv : v ≤ 6) (t : List Bool) (ht : t.length = 2 ^ v) : tblP v (bld v 1 t []).2 (bld v 1 t []).1 = t := by
  have h6 := pow6 v hv
  refine List.ext_getElem (by rw [tblP_len, ht]) (fun k h1 h2 => ?_)
  have hk : k < 2 ^ v := by rw [tblP_len] at h1; exact h1
  have := bld_val v hv t ht (bitB k) k hk (fun j hj => by unfold bitB; rw [Int.toNat_natCast]; exact bitM_nat k j (by omega) (by omega))
  simp only [tblP, List.getElem_map, List.getElem_range]
  rw [this]; simp [h2]
theorem bld_good (v : Nat) (hv : v ≤ 6) (t : List Bool) (ht : t.length = 2 ^ v) : goodD (v : Int) (bld v 1 t []).2 (bld v 1 t []).1 = true := by
  obtain ⟨_, h2, h3, h4, h5⟩ := bld_ok (v : Int) v 1 t [] ht (fun i hi => by simp at hi) (by omega) (by omega)
  have h6 := pow6 v hv
  have hb := bld_len v 1 t []
  rw [List.length_nil] at hb
  unfold goodD
  rw [Int.toNat_natCast, bld_tbl v hv t ht, (eqL_iff _ _).2 rfl]
  have hok : okD (v : Int) (bld v 1 t []).2 (bld v 1 t []).1 = true := by
    unfold okD
    rw [nodesFrom_of _ _ _ 0 (fun j _ hj => h2 j (by omega)), In_true.2 ⟨by omega, by omega⟩, In_true.2 ⟨h3, h4⟩, decide_eq_true (by omega)]; rfl
  rw [hok]; simp
theorem sameDiagram_loop (a c a' c' : Int) (x q : List S75) (h : x.length = q.length) (hl : x.length ≤ 1048576) : ∀ (d i : Nat), i + d = x.length → Ev (fun k => laws_sameDiagram.l0 k (x.length : Int) (i : Int) a x c a' q c') (eqL (x.drop i) (q.drop i))
  | 0, i, hi => by
    rw [List.drop_eq_nil_of_le (by omega), List.drop_eq_nil_of_le (by omega)]
    exact Ev.step (fun k => laws_sameDiagram.l0.eq_2 ..) (Ev.neg (by omega) (Ev.now _))
  | d + 1, i, hi => by
    refine Ev.step (fun k => laws_sameDiagram.l0.eq_2 ..) (Ev.pos (by omega) (Ev.pos (by omega) (Ev.pos (by omega) (Ev.pos (by omega) ?_))))
    rw [Nodeb_nat x i (by omega), Nodeb_nat q i (by omega), w1 i (by omega), List.drop_eq_getElem_cons (show i < x.length by omega), List.drop_eq_getElem_cons (show i < q.length by omega)]
    have e : (!(x[i].f0 == q[i].f0) || (!(x[i].f1 == q[i].f1) || !(x[i].f2 == q[i].f2))) = !(eqN x[i] q[i]) := by unfold eqN; simp only [Bool.not_and]
    rw [e]
    unfold eqL
    by_cases hx : eqN x[i] q[i] = true
    · rw [hx, Bool.true_and]; exact Ev.neg (by simp) (sameDiagram_loop a c a' c' x q h hl d (i + 1) (by omega))
    · rw [Bool.eq_false_iff.mpr hx, Bool.false_and]; exact Ev.pos (by simp) (Ev.now _)
theorem sameDiagram_ev (a c a' c' : Int) (x q : List S75) (hl : x.length ≤ 1048576) : Ev (fun k => laws_sameDiagram.f k a x c a' q c') (decide (a = a') && (decide (c = c') && eqL x q)) := by
  have bad : ∀ b : Bool, b = false → Ev (fun k => laws_sameDiagram.j0 k true a x c a' q c') b := fun b hb => by
    rw [hb]; exact Ev.step (fun k => laws_sameDiagram.j0.eq_2 ..) (Ev.pos rfl (Ev.now _))
  unfold laws_sameDiagram.f
  by_cases ha : a = a'
  · refine Ev.pos ha ?_
    by_cases hc : c = c'
    · refine Ev.pos hc ?_
      rw [decide_eq_true ha, decide_eq_true hc, Bool.true_and, Bool.true_and]
      by_cases hn : x.length = q.length
      · rw [show ((x.length : Int) != (q.length : Int)) = false by simp [hn]]
        have h := sameDiagram_loop a c a' c' x q hn hl x.length 0 (by omega)
        exact Ev.step (fun k => laws_sameDiagram.j0.eq_2 ..) (Ev.neg (by simp) h)
      · rw [show ((x.length : Int) != (q.length : Int)) = true by simp; omega]
        exact bad _ (eqL_len hn)
    · exact Ev.neg hc (bad _ (by rw [decide_eq_false hc]; simp))
  · exact Ev.neg ha (bad _ (by rw [decide_eq_false ha]; simp))
theorem sameDiagram_self (a c : Int) (x : List S75) (hl : x.length ≤ 1048576) : Ev (fun k => laws_sameDiagram.f k a x c a x c) true := by
  have h := sameDiagram_ev a c a c x x hl
  rw [(eqL_iff x x).2 rfl] at h
  exact Ev.at_ h (by simp)
theorem var_abs (n : Int) (h0 : -1000 ≤ n) (h1 : n ≤ 1000) : impl_variable.f n = some ((n.natAbs : Nat) : Int) := by
  unfold impl_variable.f
  have e : wrap64 (-n) = -n := wrap_id _ (by omega) (by omega)
  rw [e]
  by_cases h : n < -n
  · rw [if_pos h]; congr 1; omega
  · rw [if_neg h]; congr 1; omega
theorem rdL_nat (l : List (List Int)) (i : Nat) (h : i < l.length) : rd_L6 l (i : Int) = l[i] := by unfold rd_L6; simp [List.getD, h]
theorem impl_isClause_idx (p : Int → Option Bool) (l : List Int) (hl : l.length ≤ 1048576) (β : Int → Bool) (hp : ∀ x, x ∈ l → p x = some (β x)) : ∀ (d i : Nat), i + d = l.length → ∃ r, Ev (fun k => impl_isClause.idx k p l (i : Int)) r ∧ decide (r ≥ 0) = (l.drop i).any β
  | 0, i, h => ⟨-1, Ev.step (fun k => impl_isClause.idx.eq_2 ..) (Ev.neg (by omega) (Ev.now _)), by rw [List.drop_eq_nil_of_le (by omega)]; rfl⟩
  | d + 1, i, h => by
    have hi : i < l.length := by omega
    have hx := hp l[i] (List.getElem_mem hi)
    rw [List.drop_eq_getElem_cons hi, List.any_cons]
    by_cases hb : β l[i] = true
    · refine ⟨(i : Int), Ev.step (fun k => impl_isClause.idx.eq_2 ..) (Ev.pos (by omega) (Ev.pos (by omega) ?_)), by rw [hb, Bool.true_or]; exact decide_eq_true (by omega)⟩
      rw [rd_nat l i hi]; exact Ev.bindE hx (Ev.pos hb (Ev.now _))
    · obtain ⟨r, h1, h2⟩ := impl_isClause_idx p l hl β hp d (i + 1) (by omega)
      refine ⟨r, Ev.step (fun k => impl_isClause.idx.eq_2 ..) (Ev.pos (by omega) (Ev.pos (by omega) ?_)), by rw [Bool.eq_false_iff.mpr hb, Bool.false_or]; exact h2⟩
      rw [rd_nat l i hi, w1 i (by omega)]; exact Ev.bindE hx (Ev.neg hb h1)
theorem impl_isClause_any (p : Int → Option Bool) (l : List Int) (hl : l.length ≤ 1048576) (β : Int → Bool) (hp : ∀ x, x ∈ l → p x = some (β x)) : Ev (fun k => impl_isClause.any k p l) (l.any β) := by
  obtain ⟨r, h1, h2⟩ := impl_isClause_idx p l hl β hp l.length 0 (by omega)
  rw [List.drop_zero] at h2
  exact Ev.bind h1 (Ev.at_ (Ev.now _) h2)
theorem impl_holds_idx (p : Int → Option Bool) (l : List Int) (hl : l.length ≤ 1048576) (β : Int → Bool) (hp : ∀ x, x ∈ l → p x = some (β x)) : ∀ (d i : Nat), i + d = l.length → ∃ r, Ev (fun k => impl_holds.idx k p l (i : Int)) r ∧ decide (r ≥ 0) = (l.drop i).any β
  | 0, i, h => ⟨-1, Ev.step (fun k => impl_holds.idx.eq_2 ..) (Ev.neg (by omega) (Ev.now _)), by rw [List.drop_eq_nil_of_le (by omega)]; rfl⟩
  | d + 1, i, h => by
    have hi : i < l.length := by omega
    have hx := hp l[i] (List.getElem_mem hi)
    rw [List.drop_eq_getElem_cons hi, List.any_cons]
    by_cases hb : β l[i] = true
    · refine ⟨(i : Int), Ev.step (fun k => impl_holds.idx.eq_2 ..) (Ev.pos (by omega) (Ev.pos (by omega) ?_)), by rw [hb, Bool.true_or]; exact decide_eq_true (by omega)⟩
      rw [rd_nat l i hi]; exact Ev.bindE hx (Ev.pos hb (Ev.now _))
    · obtain ⟨r, h1, h2⟩ := impl_holds_idx p l hl β hp d (i + 1) (by omega)
      refine ⟨r, Ev.step (fun k => impl_holds.idx.eq_2 ..) (Ev.pos (by omega) (Ev.pos (by omega) ?_)), by rw [Bool.eq_false_iff.mpr hb, Bool.false_or]; exact h2⟩
      rw [rd_nat l i hi, w1 i (by omega)]; exact Ev.bindE hx (Ev.neg hb h1)
theorem impl_holds_any (p : Int → Option Bool) (l : List Int) (hl : l.length ≤ 1048576) (β : Int → Bool) (hp : ∀ x, x ∈ l → p x = some (β x)) : Ev (fun k => impl_holds.any k p l) (l.any β) := by
  obtain ⟨r, h1, h2⟩ := impl_holds_idx p l hl β hp l.length 0 (by omega)
  rw [List.drop_zero] at h2
  exact Ev.bind h1 (Ev.at_ (Ev.now _) h2)
def clF (v : Int) (c : List Int) : Nat → Nat → Bool
  | 0, _ => decide (c.length ≤ 12)
  | d + 1, i => (c.getD i 0 != 0 && In (c.getD i 0) (-v) v) && (!((c.take i).any (fun k => k == c.getD i 0 || k == -(c.getD i 0))) && clF v c d (i + 1))
theorem clF_both (v : Int) (hv : 0 ≤ v ∧ v ≤ 12) (c : List Int) (hl : c.length ≤ 1048576) : ∀ (d i : Nat), i + d = c.length → (∀ j (h : j < c.length), j < i → -12 ≤ c[j] ∧ c[j] ≤ 12) → Ev (fun k => impl_isClause.l0 k c v (i : Int)) (clF v c d i) ∧ Ev (fun k => spec_l4Clause.l0 k v c c (c.length : Int) (i : Int)) (clF v c d i)
  | 0, i, h, hj => ⟨Ev.step (fun k => impl_isClause.l0.eq_2 ..) (Ev.neg (by omega) (Ev.at_ (Ev.now _) (decide_eq_decide.2 (by omega)))), Ev.step (fun k => spec_l4Clause.l0.eq_2 ..) (Ev.neg (by omega) (Ev.at_ (Ev.now _) (decide_eq_decide.2 (by omega))))⟩
  | d + 1, i, h, hj => by
    have hi : i < c.length := by omega
    have eg : c.getD i 0 = c[i] := by simp [hi]
    have hwv : wrap64 (-v) = -v := wrap_id _ (by omega) (by omega)
    unfold clF
    rw [eg]
    by_cases h0 : c[i] = 0
    · have e : (c[i] != 0) = false := by simp [h0]
      rw [e, Bool.false_and, Bool.false_and]
      refine ⟨Ev.step (fun k => impl_isClause.l0.eq_2 ..) (Ev.pos (by omega) (Ev.pos (by omega) ?_)), Ev.step (fun k => spec_l4Clause.l0.eq_2 ..) (Ev.pos (by omega) (Ev.pos (by omega) (Ev.pos (by omega) ?_)))⟩
      · rw [rd_nat c i hi]
        exact Ev.bindE (show impl_isLiteral.f c[i] v = some false by unfold impl_isLiteral.f; rw [if_pos h0]) (Ev.neg (by simp) (Ev.now _))
      · rw [rd_nat c i hi]; exact Ev.pos h0 (Ev.now _)
    · have e : (c[i] != 0) = true := by simp [h0]
      rw [e, Bool.true_and]
      have elit : impl_isLiteral.f c[i] v = some (In c[i] (-v) v) := by unfold impl_isLiteral.f; rw [if_neg h0, hwv]; exact impl_in_eq ..
      by_cases h1 : In c[i] (-v) v = true
      · have h1' := In_true.1 h1
        rw [h1, Bool.true_and]
        rw [h1] at elit
        have ih := clF_both v hv c hl d (i + 1) (by omega) (fun j hjl hji => by
          by_cases e : j = i
          · subst e; omega
          · exact hj j hjl (by omega))
        have hmem : ∀ x, x ∈ c.take i → -12 ≤ x ∧ x ≤ 12 := fun x hx => by
          obtain ⟨j, hjl, e⟩ := List.getElem_of_mem hx
          rw [List.getElem_take] at e
          rw [List.length_take] at hjl
          rw [← e]; exact hj j (by omega) (by omega)
        have ha := impl_isClause_any (impl_isClause.np c[i]) (c.take i) (by rw [List.length_take]; omega) (fun k => k == c[i] || k == -c[i]) (fun x hx => by
          have := hmem x hx
          unfold impl_isClause.np
          rw [var_abs x (by omega) (by omega), Option.bind_some, var_abs c[i] (by omega) (by omega), Option.bind_some]
          congr 1
          rw [Bool.eq_iff_iff]
          simp only [beq_iff_eq, Bool.or_eq_true]
          omega)
        have hs1 := l1Has_ev (c.take i) c[i] (by rw [List.length_take]; omega)
        have hs2 := l1Has_ev (c.take i) (-c[i]) (by rw [List.length_take]; omega)
        have hwn : wrap64 (-c[i]) = -c[i] := wrap_id _ (by omega) (by omega)
        have esp : ((c.take i).any (fun k => k == c[i] || k == -c[i])) = (decide (c[i] ∈ c.take i) || decide (-c[i] ∈ c.take i)) := by
          rw [Bool.eq_iff_iff]
          simp only [List.any_eq_true, Bool.or_eq_true, beq_iff_eq, decide_eq_true_eq]
          constructor
          · rintro ⟨x, hx, rfl | rfl⟩
            · exact Or.inl hx
            · exact Or.inr hx
          · rintro (hx | hx)
            · exact ⟨_, hx, Or.inl rfl⟩
            · exact ⟨_, hx, Or.inr rfl⟩
        refine ⟨Ev.step (fun k => impl_isClause.l0.eq_2 ..) (Ev.pos (by omega) (Ev.pos (by omega) ?_)), Ev.step (fun k => spec_l4Clause.l0.eq_2 ..) (Ev.pos (by omega) (Ev.pos (by omega) (Ev.pos (by omega) ?_)))⟩
        · rw [rd_nat c i hi, Int.toNat_natCast, w1 i (by omega)]
          refine Ev.bindE elit (Ev.pos rfl (Ev.bind ha ?_))
          by_cases hb : ((c.take i).any (fun k => k == c[i] || k == -c[i])) = true
          · rw [hb]; exact Ev.pos rfl (Ev.now _)
          · rw [Bool.eq_false_iff.mpr hb]; exact Ev.neg (by simp) ih.1
        · rw [rd_nat c i hi, Int.toNat_natCast, w1 i (by omega), hwv, hwn, esp]
          refine Ev.neg h0 (Ev.bindE (spec_l1In_eq ..) (Ev.pos h1 (Ev.pos (by omega) (Ev.bind hs1 ?_))))
          by_cases hb : c[i] ∈ c.take i
          · rw [decide_eq_true hb]; exact Ev.pos rfl (Ev.now _)
          · rw [decide_eq_false hb]
            refine Ev.neg (by simp) (Ev.bind hs2 ?_)
            by_cases hb2 : -c[i] ∈ c.take i
            · rw [decide_eq_true hb2]; exact Ev.pos rfl (Ev.now _)
            · rw [decide_eq_false hb2]; exact Ev.neg (by simp) ih.2
      · rw [Bool.eq_false_iff.mpr h1, Bool.false_and]
        rw [Bool.eq_false_iff.mpr h1] at elit
        refine ⟨Ev.step (fun k => impl_isClause.l0.eq_2 ..) (Ev.pos (by omega) (Ev.pos (by omega) ?_)), Ev.step (fun k => spec_l4Clause.l0.eq_2 ..) (Ev.pos (by omega) (Ev.pos (by omega) (Ev.pos (by omega) ?_)))⟩
        · rw [rd_nat c i hi]; exact Ev.bindE elit (Ev.neg (by simp) (Ev.now _))
        · rw [rd_nat c i hi, hwv]; exact Ev.neg h0 (Ev.bindE (spec_l1In_eq ..) (Ev.neg h1 (Ev.now _)))
def clB (v : Int) (c : List Int) : Bool := clF v c c.length 0
theorem clF_lits (v : Int) (c : List Int) : ∀ (d i : Nat), i + d = c.length → clF v c d i = true → c.length ≤ 12 ∧ ∀ j (h : j < c.length), i ≤ j → c[j] ≠ 0 ∧ -v ≤ c[j] ∧ c[j] ≤ v
  | 0, i, h, hc => ⟨of_decide_eq_true hc, fun j hj hij => by omega⟩
  | d + 1, i, h, hc => by
    unfold clF at hc
    simp only [Bool.and_eq_true, bne_iff_ne, In_true] at hc
    have ih := clF_lits v c d (i + 1) (by omega) hc.2.2
    have eg : c.getD i 0 = c[i]'(by omega) := by simp [show i < c.length by omega]
    rw [eg] at hc
    refine ⟨ih.1, fun j hj hij => ?_⟩
    by_cases e : j = i
    · subst e; exact ⟨hc.1.1, hc.1.2⟩
    · exact ih.2 j hj (by omega)
theorem clB_lits {v : Int} {c : List Int} (h : clB v c = true) : c.length ≤ 12 ∧ ∀ x, x ∈ c → x ≠ 0 ∧ -v ≤ x ∧ x ≤ v := by
  obtain ⟨h1, h2⟩ := clF_lits v c c.length 0 (by omega) h
  exact ⟨h1, fun x hx => by obtain ⟨j, hj, e⟩ := List.getElem_of_mem hx; rw [← e]; exact h2 j hj (by omega)⟩
def GoodC (v : Int) (l : List (List Int)) : Bool := In v 0 12 && (decide (l.length ≤ 60) && l.all (clB v))
theorem are_idx (p : List Int → Option Bool) (l : List (List Int)) (hl : l.length ≤ 1048576) (β : List Int → Bool) (hp : ∀ x, x ∈ l → p x = some (β x)) : ∀ (d i k : Nat), i + d = l.length → d < k → ∃ r, impl_areClauses.idx k p l (i : Int) = some r ∧ decide (r ≥ 0) = (l.drop i).any β
  | 0, i, k, h, hk => by
    obtain ⟨k, rfl⟩ : ∃ m, k = m + 1 := ⟨k - 1, by omega⟩
    exact ⟨-1, by unfold impl_areClauses.idx; rw [if_neg (by omega)], by rw [List.drop_eq_nil_of_le (by omega)]; rfl⟩
  | d + 1, i, k, h, hk => by
    obtain ⟨k, rfl⟩ : ∃ m, k = m + 1 := ⟨k - 1, by omega⟩
    have hi : i < l.length := by omega
    have hx := hp l[i] (List.getElem_mem hi)
    rw [List.drop_eq_getElem_cons hi, List.any_cons]
    unfold impl_areClauses.idx
    rw [if_pos (by omega), if_pos (by omega), rdL_nat l i hi, hx, Option.bind_some, w1 i (by omega)]
    by_cases hb : β l[i] = true
    · rw [if_pos hb]; exact ⟨_, rfl, by rw [hb, Bool.true_or]; exact decide_eq_true (by omega)⟩
    · rw [if_neg hb, Bool.eq_false_iff.mpr hb, Bool.false_or]
      exact are_idx p l hl β hp d (i + 1) k (by omega) (by omega)
theorem evAllL {α : Type} {P : Nat → α → Option Bool} {β : α → Bool} : ∀ l : List α, (∀ x, x ∈ l → Ev (fun k => P k x) (β x)) → ∃ K, ∀ k, K ≤ k → ∀ x, x ∈ l → P k x = some (β x)
  | [], _ => ⟨0, fun _ _ x hx => by simp at hx⟩
  | a :: l, h => by
    obtain ⟨K, hK⟩ := evAllL l (fun x hx => h x (List.mem_cons_of_mem _ hx))
    obtain ⟨K2, hK2⟩ := h a (List.mem_cons_self ..)
    refine ⟨max K K2, fun k hk x hx => ?_⟩
    rcases List.mem_cons.1 hx with rfl | hx
    · exact hK2 k (by omega)
    · exact hK k (by omega) x hx
theorem isClause_ev (v : Int) (hv : 0 ≤ v ∧ v ≤ 12) (c : List Int) (hl : c.length ≤ 1048576) : Ev (fun k => impl_isClause.f k c v) (clB v c) := (clF_both v hv c hl c.length 0 (by omega) (fun j hj h => by omega)).1
theorem l4Clause_ev (v : Int) (hv : 0 ≤ v ∧ v ≤ 12) (c : List Int) (hl : c.length ≤ 1048576) : Ev (fun k => spec_l4Clause.f k v c) (clB v c) := (clF_both v hv c hl c.length 0 (by omega) (fun j hj h => by omega)).2
def Rows (l : List (List Int)) : Prop := l.length ≤ 1048576 ∧ ∀ c, c ∈ l → c.length ≤ 1048576
theorem goodCI (v : Int) (l : List (List Int)) (hl : Rows l) : Ev (fun k => impl_GoodClauses.f k v l) (GoodC v l) := by
  unfold impl_GoodClauses.f GoodC
  refine Ev.bindE (impl_in_eq ..) ?_
  by_cases h1 : In v 0 12 = true
  · have h1' := In_true.1 h1
    rw [h1, Bool.true_and]
    refine Ev.pos rfl ?_
    by_cases h2 : l.length ≤ 60
    · rw [decide_eq_true h2, Bool.true_and]
      refine Ev.pos (by omega) (Ev.bind (a := l.all (clB v)) ?_ (Ev.now _))
      obtain ⟨K, hK⟩ := evAllL (P := fun k c => impl_areClauses.np k v c) (β := fun c => !clB v c) l (fun c hc => Ev.bind (isClause_ev v h1' c (hl.2 c hc)) (Ev.now _))
      refine ⟨max K (l.length + 1), fun k hk => ?_⟩
      obtain ⟨r, e1, e2⟩ := are_idx (impl_areClauses.np k v) l hl.1 (fun c => !clB v c) (hK k (by omega)) l.length 0 k (by omega) (by omega)
      rw [List.drop_zero] at e2
      unfold impl_areClauses.f impl_areClauses.any
      rw [show ((0 : Nat) : Int) = 0 from rfl] at e1
      show ((impl_areClauses.idx k (impl_areClauses.np k v) l 0).bind fun t => some (decide (t ≥ 0))).bind (fun t => some !t) = _
      rw [e1, Option.bind_some, Option.bind_some, e2]
      congr 1
      rw [List.not_any_eq_all_not]
      congr 1
      funext c
      simp
    · rw [decide_eq_false h2, Bool.false_and]; exact Ev.neg (by omega) (Ev.now _)
  · rw [Bool.eq_false_iff.mpr h1, Bool.false_and]; exact Ev.neg (by simp) (Ev.now _)
theorem goodS_rows (v : Int) (hv : 0 ≤ v ∧ v ≤ 12) (l : List (List Int)) (hl : Rows l) : ∀ (d i : Nat), i + d = l.length → Ev (fun k => spec_l4Good.l0 k v l (l.length : Int) (i : Int)) ((l.drop i).all (clB v))
  | 0, i, h => by rw [List.drop_eq_nil_of_le (by omega)]; exact Ev.step (fun k => spec_l4Good.l0.eq_2 ..) (Ev.neg (by omega) (Ev.now _))
  | d + 1, i, h => by
    have hi : i < l.length := by omega
    have h0 := hl.1
    rw [List.drop_eq_getElem_cons hi, List.all_cons]
    refine Ev.step (fun k => spec_l4Good.l0.eq_2 ..) (Ev.pos (by omega) (Ev.pos (by omega) (Ev.pos (by omega) ?_)))
    rw [rdL_nat l i hi, w1 i (by omega)]
    refine Ev.bind (l4Clause_ev v hv l[i] (hl.2 _ (List.getElem_mem hi))) ?_
    by_cases hb : clB v l[i] = true
    · rw [hb, Bool.true_and]; exact Ev.pos rfl (goodS_rows v hv l hl d (i + 1) (by omega))
    · rw [Bool.eq_false_iff.mpr hb, Bool.false_and]; exact Ev.neg (by simp) (Ev.now _)
theorem goodCS (v : Int) (l : List (List Int)) (hl : Rows l) : Ev (fun k => spec_GoodClauses.f k v l) (GoodC v l) := by
  have h0 := hl.1
  have bad : ∀ b : Bool, b = false → Ev (fun k => spec_l4Good.j0 k v l true) b := fun b hb => by
    rw [hb]; exact Ev.step (fun k => spec_l4Good.j0.eq_2 ..) (Ev.pos rfl (Ev.now _))
  unfold spec_GoodClauses.f GoodC
  refine Ev.bind (a := In v 0 12 && (decide (l.length ≤ 60) && l.all (clB v))) ?_ (Ev.now _)
  unfold spec_l4Good.f
  refine Ev.bindE (spec_l1In_eq ..) ?_
  by_cases h1 : In v 0 12 = true
  · have h1' := In_true.1 h1
    refine Ev.pos h1 ?_
    rw [h1, Bool.true_and]
    by_cases h2 : l.length ≤ 60
    · rw [decide_eq_true h2, Bool.true_and, show decide ((l.length : Int) > 60) = false from decide_eq_false (by omega)]
      have := goodS_rows v h1' l hl l.length 0 (by omega)
      rw [List.drop_zero] at this
      exact Ev.step (fun k => spec_l4Good.j0.eq_2 ..) (Ev.neg (by simp) this)
    · rw [decide_eq_false h2, show decide ((l.length : Int) > 60) = true from decide_eq_true (by omega)]
      exact bad _ (Bool.false_and ..)
  · refine Ev.neg h1 (bad _ ?_)
    rw [Bool.eq_false_iff.mpr h1]; rfl
def litB (m : List Bool) (x : Int) : Bool := m.getD (x.natAbs - 1) false == decide (x > 0)
def holdsB (m : List Bool) (l : List (List Int)) : Bool := l.all (fun c => c.any (litB m))
def LitsIn (v : Nat) (l : List (List Int)) : Prop := l.length ≤ 60 ∧ ∀ c, c ∈ l → c.length ≤ 12 ∧ ∀ x, x ∈ c → x ≠ 0 ∧ -(v : Int) ≤ x ∧ x ≤ (v : Int)
theorem litI (v : Nat) (hv : v ≤ 12) (m : List Bool) (hm : m.length = v) (x : Int) (h0 : x ≠ 0) (h1 : -(v : Int) ≤ x) (h2 : x ≤ (v : Int)) : impl_holds.np m x = some (litB m x) := by
  unfold impl_holds.np
  rw [var_abs x (by omega) (by omega), Option.bind_some, wrap_id _ (by omega) (by omega), if_pos (by omega), if_pos (by omega)]
  obtain ⟨j, hj⟩ : ∃ j : Nat, (x.natAbs : Int) - 1 = (j : Int) := ⟨x.natAbs - 1, by omega⟩
  rw [hj]
  unfold litB rdOf
  rw [Int.toNat_natCast, show x.natAbs - 1 = j by omega]
theorem holdsI_loop (v : Nat) (hv : v ≤ 12) (m : List Bool) (hm : m.length = v) (l : List (List Int)) (hl : LitsIn v l) : ∀ (d i : Nat), i + d = l.length → Ev (fun k => impl_holds.l0 k l m (i : Int)) (holdsB m (l.drop i))
  | 0, i, h => by rw [List.drop_eq_nil_of_le (by omega)]; exact Ev.step (fun k => impl_holds.l0.eq_2 ..) (Ev.neg (by omega) (Ev.now _))
  | d + 1, i, h => by
    have hi : i < l.length := by omega
    have h60 := hl.1
    have hr := hl.2 l[i] (List.getElem_mem hi)
    have ha := impl_holds_any (impl_holds.np m) l[i] (by omega) (litB m) (fun x hx => litI v hv m hm x (hr.2 x hx).1 (hr.2 x hx).2.1 (hr.2 x hx).2.2)
    rw [List.drop_eq_getElem_cons hi]
    unfold holdsB
    rw [List.all_cons]
    refine Ev.step (fun k => impl_holds.l0.eq_2 ..) (Ev.pos (by omega) (Ev.pos (by omega) ?_))
    rw [rdL_nat l i hi, w1 i (by omega)]
    refine Ev.bind ha ?_
    by_cases hb : l[i].any (litB m) = true
    · rw [hb, Bool.true_and]; exact Ev.pos rfl (holdsI_loop v hv m hm l hl d (i + 1) (by omega))
    · rw [Bool.eq_false_iff.mpr hb, Bool.false_and]; exact Ev.neg (by simp) (Ev.now _)
theorem holdsI (v : Nat) (hv : v ≤ 12) (m : List Bool) (hm : m.length = v) (l : List (List Int)) (hl : LitsIn v l) : Ev (fun k => impl_holds.f k l m) (holdsB m l) := by
  have := holdsI_loop v hv m hm l hl l.length 0 (by omega)
  rw [List.drop_zero] at this
  exact this
theorem GoodC_lits {v : Nat} {l : List (List Int)} (h : GoodC (v : Int) l = true) : v ≤ 12 ∧ LitsIn v l := by
  unfold GoodC at h
  simp only [Bool.and_eq_true, In_true, decide_eq_true_eq, List.all_eq_true] at h
  exact ⟨by omega, h.2.1, fun c hc => clB_lits (h.2.2 c hc)⟩
theorem litS (v : Nat) (hv : v ≤ 12) (m : List Bool) (hm : m.length = v) (x : Int) (h0 : x ≠ 0) (h1 : -(v : Int) ≤ x) (h2 : x ≤ (v : Int)) : spec_l4Lit.f m x = some (litB m x) := by
  unfold spec_l4Lit.f
  by_cases h : x < 0
  · rw [if_pos h, wrap_id (-x) (by omega) (by omega), wrap_id _ (by omega) (by omega), if_pos (by omega), if_pos (by omega)]
    obtain ⟨j, hj⟩ : ∃ j : Nat, -x - 1 = (j : Int) := ⟨x.natAbs - 1, by omega⟩
    rw [hj]
    unfold litB rdOf
    rw [Int.toNat_natCast, show x.natAbs - 1 = j by omega, decide_eq_false (show ¬ x > 0 by omega)]
    cases m.getD j false <;> rfl
  · rw [if_neg h, wrap_id (x - 1) (by omega) (by omega), if_pos (by omega), if_pos (by omega)]
    obtain ⟨j, hj⟩ : ∃ j : Nat, x - 1 = (j : Int) := ⟨x.natAbs - 1, by omega⟩
    rw [hj]
    unfold litB rdOf
    rw [Int.toNat_natCast, show x.natAbs - 1 = j by omega, decide_eq_true (show x > 0 by omega)]
    cases m.getD j false <;> rfl
theorem holdsS_row (v : Nat) (hv : v ≤ 12) (m : List Bool) (hm : m.length = v) (l : List (List Int)) (row : List Int) (hr : row.length ≤ 12) (hx : ∀ x, x ∈ row → x ≠ 0 ∧ -(v : Int) ≤ x ∧ x ≤ (v : Int)) (z : Int) (R : Bool) (cont : Ev (fun k => spec_l4Holds.l0 k m l (l.length : Int) (wrap64 (z + 1))) R) : ∀ (d j : Nat) (b : Bool), j + d = row.length → Ev (fun k => spec_l4Holds.l1 k m b l (l.length : Int) z row (row.length : Int) (j : Int)) (if (b || (row.drop j).any (litB m)) = true then R else false)
  | 0, j, b, h => by
    rw [List.drop_eq_nil_of_le (by omega)]
    refine Ev.step (fun k => spec_l4Holds.l1.eq_2 ..) (Ev.neg (by omega) ?_)
    cases b
    · exact Ev.neg (by simp) (Ev.now _)
    · exact Ev.pos rfl cont
  | d + 1, j, b, h => by
    have hj : j < row.length := by omega
    have hl := hx row[j] (List.getElem_mem hj)
    rw [List.drop_eq_getElem_cons hj, List.any_cons]
    refine Ev.step (fun k => spec_l4Holds.l1.eq_2 ..) (Ev.pos (by omega) (Ev.pos (by omega) (Ev.pos (by omega) ?_)))
    rw [rd_nat row j hj, w1 j (by omega)]
    cases b
    · rw [Bool.false_or]
      refine Ev.neg (by simp) (Ev.bindE (litS v hv m hm row[j] hl.1 hl.2.1 hl.2.2) ?_)
      exact holdsS_row v hv m hm l row hr hx z R cont d (j + 1) _ (by omega)
    · have := holdsS_row v hv m hm l row hr hx z R cont d (j + 1) true (by omega)
      rw [Bool.true_or] at this ⊢
      exact Ev.pos rfl this
theorem holdsS_loop (v : Nat) (hv : v ≤ 12) (m : List Bool) (hm : m.length = v) (l : List (List Int)) (hl : LitsIn v l) : ∀ (d i : Nat), i + d = l.length → Ev (fun k => spec_l4Holds.l0 k m l (l.length : Int) (i : Int)) (holdsB m (l.drop i))
  | 0, i, h => by rw [List.drop_eq_nil_of_le (by omega)]; exact Ev.step (fun k => spec_l4Holds.l0.eq_2 ..) (Ev.neg (by omega) (Ev.now _))
  | d + 1, i, h => by
    have hi : i < l.length := by omega
    have h60 := hl.1
    have hr := hl.2 l[i] (List.getElem_mem hi)
    have ih := holdsS_loop v hv m hm l hl d (i + 1) (by omega)
    have hrow := holdsS_row v hv m hm l l[i] hr.1 hr.2 (i : Int) (holdsB m (l.drop (i + 1))) (by rw [w1 i (by omega)]; exact ih) l[i].length 0 false (by omega)
    rw [List.drop_zero, Bool.false_or] at hrow
    rw [List.drop_eq_getElem_cons hi]
    refine Ev.step (fun k => spec_l4Holds.l0.eq_2 ..) (Ev.pos (by omega) (Ev.pos (by omega) (Ev.pos (by omega) ?_)))
    rw [rdL_nat l i hi]
    refine Ev.at_ hrow ?_
    unfold holdsB
    rw [List.all_cons]
    cases l[i].any (litB m) <;> simp
theorem holdsS (v : Nat) (hv : v ≤ 12) (m : List Bool) (hm : m.length = v) (l : List (List Int)) (hl : LitsIn v l) : Ev (fun k => spec_l4Holds.f k l m) (holdsB m l) := by
  have := holdsS_loop v hv m hm l hl l.length 0 (by omega)
  rw [List.drop_zero] at this
  exact this
theorem cnt_halves : ∀ t : List Bool, cnt t = cnt (halves t).1 + cnt (halves t).2
  | [] => rfl
  | b :: t => by
    have h := cnt_halves t
    have e1 : halves (b :: t) = (b :: (halves t).2, (halves t).1) := rfl
    have e2 : ∀ u : List Bool, cnt (b :: u) = if b = true then cnt u + 1 else cnt u := fun _ => rfl
    rw [e1]
    simp only
    rw [e2, e2]
    split <;> omega
theorem getD_map_range (f : Nat → Bool) (n i : Nat) (h : i < n) : ((List.range n).map f).getD i false = f i := by
  simp [List.getD, h]
theorem ext_getD {a b : List Bool} (h : a.length = b.length) (hg : ∀ i, i < a.length → a.getD i false = b.getD i false) : a = b := by
  refine List.ext_getElem h (fun i h1 h2 => ?_)
  have := hg i h1
  simpa [List.getD, h1, h2] using this
def FX (so : Bool) (j n : Nat) (t : List Bool) : List Bool := (List.range (2 ^ n)).map (fun i => t.getD (fixI so (2 ^ j) i) false)
theorem FX_len (so : Bool) (j n : Nat) (t : List Bool) : (FX so j n t).length = 2 ^ n := by simp [FX]
theorem fixI_tb (so : Bool) (b i k : Nat) : (fixI so b i).testBit k = if so = true then (i.testBit k || b.testBit k) else (i.testBit k && !b.testBit k) := by
  unfold fixI
  split
  · rw [Nat.testBit_or]
  · rw [testBit_andn]
theorem tb_e0 (x : Nat) : (2 * x).testBit 0 = false := by rw [Nat.testBit_zero]; exact decide_eq_false (by omega)
theorem tb_o0 (x : Nat) : (2 * x + 1).testBit 0 = true := by rw [Nat.testBit_zero]; exact decide_eq_true (by omega)
theorem tb_es (x k : Nat) : (2 * x).testBit (k + 1) = x.testBit k := by rw [Nat.testBit_succ, show 2 * x / 2 = x by omega]
theorem tb_os (x k : Nat) : (2 * x + 1).testBit (k + 1) = x.testBit k := by rw [Nat.testBit_succ, show (2 * x + 1) / 2 = x by omega]
theorem tb_1s (k : Nat) : Nat.testBit 1 (k + 1) = false := by rw [Nat.testBit_succ, show 1 / 2 = 0 from rfl, Nat.zero_testBit]
theorem fixI_zero (so : Bool) (i : Nat) : fixI so (2 ^ 0) (2 * i) = (if so = true then 2 * i + 1 else 2 * i) ∧ fixI so (2 ^ 0) (2 * i + 1) = (if so = true then 2 * i + 1 else 2 * i) := by
  have e : 2 ^ 0 = 2 * 0 + 1 := rfl
  rw [e]
  constructor <;> (apply Nat.eq_of_testBit_eq; intro k; rw [fixI_tb]; cases so <;> cases k <;> simp [tb_e0, tb_o0, tb_es, tb_os, tb_1s])
theorem fixI_two (so : Bool) (j i : Nat) : fixI so (2 ^ (j + 1)) (2 * i) = 2 * fixI so (2 ^ j) i ∧ fixI so (2 ^ (j + 1)) (2 * i + 1) = 2 * fixI so (2 ^ j) i + 1 := by
  have e : 2 ^ (j + 1) = 2 * 2 ^ j := by rw [Nat.pow_succ, Nat.mul_comm]
  rw [e]
  generalize 2 ^ j = b
  constructor <;> (apply Nat.eq_of_testBit_eq; intro k; rw [fixI_tb]; cases k <;> simp only [tb_e0, tb_o0, tb_es, tb_os, fixI_tb] <;> cases so <;> simp)
theorem FX_zero (so : Bool) (n : Nat) (t : List Bool) (ht : t.length = 2 ^ (n + 1)) : halves (FX so 0 (n + 1) t) = ((if so = true then (halves t).2 else (halves t).1), (if so = true then (halves t).2 else (halves t).1)) := by
  have e2 : 2 ^ (n + 1) = 2 ^ n + 2 ^ n := by rw [Nat.pow_succ]; omega
  have hp := halves_pow (FX so 0 (n + 1) t) n (FX_len ..)
  have hq := halves_pow t n ht
  have hlen : (if so = true then (halves t).2 else (halves t).1).length = 2 ^ n := by split <;> omega
  have key : ∀ i, i < 2 ^ n → (halves (FX so 0 (n + 1) t)).1.getD i false = (if so = true then (halves t).2 else (halves t).1).getD i false ∧ (halves (FX so 0 (n + 1) t)).2.getD i false = (if so = true then (halves t).2 else (halves t).1).getD i false := by
    intro i hi
    rw [(halves_get _ i).1, (halves_get _ i).2]
    unfold FX
    rw [getD_map_range _ _ _ (show 2 * i < 2 ^ (n + 1) by omega), getD_map_range _ _ _ (show 2 * i + 1 < 2 ^ (n + 1) by omega), (fixI_zero so i).1, (fixI_zero so i).2]
    cases so
    · exact ⟨(halves_get t i).1.symm, (halves_get t i).1.symm⟩
    · exact ⟨(halves_get t i).2.symm, (halves_get t i).2.symm⟩
  exact Prod.ext (ext_getD (hp.1.trans hlen.symm) (fun i hi => (key i (by omega)).1)) (ext_getD (hp.2.trans hlen.symm) (fun i hi => (key i (by omega)).2))
theorem FX_succ (so : Bool) (j n : Nat) (t : List Bool) (ht : t.length = 2 ^ (n + 1)) (hj : j < n) : halves (FX so (j + 1) (n + 1) t) = (FX so j n (halves t).1, FX so j n (halves t).2) := by
  have e2 : 2 ^ (n + 1) = 2 ^ n + 2 ^ n := by rw [Nat.pow_succ]; omega
  have hp := halves_pow (FX so (j + 1) (n + 1) t) n (FX_len ..)
  have hbj : 2 ^ j < 2 ^ n := Nat.pow_lt_pow_right (by decide) hj
  have key : ∀ i, i < 2 ^ n → (halves (FX so (j + 1) (n + 1) t)).1.getD i false = (FX so j n (halves t).1).getD i false ∧ (halves (FX so (j + 1) (n + 1) t)).2.getD i false = (FX so j n (halves t).2).getD i false := by
    intro i hi
    rw [(halves_get _ i).1, (halves_get _ i).2]
    unfold FX
    rw [getD_map_range _ _ _ (show 2 * i < 2 ^ (n + 1) by omega), getD_map_range _ _ _ (show 2 * i + 1 < 2 ^ (n + 1) by omega), getD_map_range _ _ _ hi, getD_map_range _ _ _ hi, (fixI_two so j i).1, (fixI_two so j i).2, (halves_get t _).1, (halves_get t _).2]
    exact ⟨rfl, rfl⟩
  exact Prod.ext (ext_getD (hp.1.trans (FX_len ..).symm) (fun i hi => (key i (by omega)).1)) (ext_getD (hp.2.trans (FX_len ..).symm) (fun i hi => (key i (by omega)).2))
theorem cnt_FX : ∀ (n j : Nat) (t : List Bool), j < n → t.length = 2 ^ n → cnt (FX true j n t) + cnt (FX false j n t) = 2 * cnt t
  | 0, j, t, h, _ => by omega
  | n + 1, 0, t, h, ht => by
    rw [cnt_halves (FX true 0 (n + 1) t), cnt_halves (FX false 0 (n + 1) t), cnt_halves t, FX_zero true n t ht, FX_zero false n t ht]
    show cnt (halves t).2 + cnt (halves t).2 + (cnt (halves t).1 + cnt (halves t).1) = 2 * (cnt (halves t).1 + cnt (halves t).2)
    omega
  | n + 1, j + 1, t, h, ht => by
    have hq := halves_pow t n ht
    have h1 := cnt_FX n j (halves t).1 (by omega) hq.1
    have h2 := cnt_FX n j (halves t).2 (by omega) hq.2
    rw [cnt_halves (FX true (j + 1) (n + 1) t), cnt_halves (FX false (j + 1) (n + 1) t), cnt_halves t, FX_succ true j n t ht (by omega), FX_succ false j n t ht (by omega)]
    simp only
    omega
theorem bld_ge : ∀ (n : Nat) (v : Int) (t : List Bool) (q : List S75) (x : S75), x ∈ (bld n v t q).2 → x ∈ q ∨ v ≤ x.f0
  | 0, v, t, q, x, h => Or.inl h
  | n + 1, v, t, q, x, h => by
    have i1 := bld_ge n (v + 1) (halves t).1 q x
    have i2 := bld_ge n (v + 1) (halves t).2 (bld n (v + 1) (halves t).1 q).2 x
    unfold bld at h
    by_cases hx : (halves t).1 = (halves t).2
    · rw [if_pos hx] at h
      exact (i1 h).imp id (fun h => by omega)
    · rw [if_neg hx] at h
      have hy : x ∈ (bld n (v + 1) (halves t).2 (bld n (v + 1) (halves t).1 q).2).2 → x ∈ q ∨ v ≤ x.f0 := fun h => by
        rcases i2 h with h | h
        · exact (i1 h).imp id (fun h => by omega)
        · exact Or.inr (by omega)
      split at h
      · rcases List.mem_append.1 h with h | h
        · exact hy h
        · rw [List.mem_singleton] at h; subst h; exact Or.inr (Int.le_refl _)
      · exact hy h
theorem bld_FX (so : Bool) : ∀ (n j : Nat) (v : Int) (t : List Bool) (q : List S75) (x : S75), j < n → t.length = 2 ^ n → x ∈ (bld n v (FX so j n t) q).2 → x ∈ q ∨ x.f0 ≠ v + (j : Int)
  | 0, j, v, t, q, x, hj, _, _ => by omega
  | n + 1, 0, v, t, q, x, hj, ht, h => by
    unfold bld at h
    rw [FX_zero so n t ht] at h
    rw [if_pos rfl] at h
    exact (bld_ge n (v + 1) _ q x h).imp id (fun h => by omega)
  | n + 1, j + 1, v, t, q, x, hj, ht, h => by
    have hq := halves_pow t n ht
    have i1 := bld_FX so n j (v + 1) (halves t).1 q x (by omega) hq.1
    have i2 := bld_FX so n j (v + 1) (halves t).2 (bld n (v + 1) (FX so j n (halves t).1) q).2 x (by omega) hq.2
    unfold bld at h
    rw [FX_succ so j n t ht (by omega)] at h
    simp only at h
    by_cases hx : FX so j n (halves t).1 = FX so j n (halves t).2
    · rw [if_pos hx] at h
      exact (i1 h).imp id (fun h => by omega)
    · rw [if_neg hx] at h
      have hy : x ∈ (bld n (v + 1) (FX so j n (halves t).2) (bld n (v + 1) (FX so j n (halves t).1) q).2).2 → x ∈ q ∨ x.f0 ≠ v + ((j + 1 : Nat) : Int) := fun h => by
        rcases i2 h with h | h
        · exact (i1 h).imp id (fun h => by omega)
        · exact Or.inr (by omega)
      split at h
      · rcases List.mem_append.1 h with h | h
        · exact hy h
        · rw [List.mem_singleton] at h; subst h; exact Or.inr (by simp only; omega)
      · exact hy h
theorem FX_tbl (v : Nat) (q : List S75) (c : Int) (so : Bool) (n : Nat) (hn : n < v) : (List.range (2 ^ v)).map (fun i => evP q (bitB (fixI so (2 ^ n) i)) 64 c) = FX so n v (tblP v q c) := by
  have hbv : 2 ^ n < 2 ^ v := Nat.pow_lt_pow_right (by decide) hn
  unfold FX
  refine List.map_congr_left (fun i hi => ?_)
  have hlt := fixI_lt so v (2 ^ n) i (List.mem_range.1 hi) hbv
  unfold tblP
  rw [getD_map_range _ _ _ hlt]
theorem fixVar_val (v : Nat) (q : List S75) (c : Int) (hg : goodD (v : Int) q c = true) (so : Bool) (n : Nat) (hn : n < v) : Ev (fun k => impl_FixVar.f k (v : Int) q c ((n : Int) + 1) so) ((v : Int), (bld v 1 (FX so n v (tblP v q c)) []).2, (bld v 1 (FX so n v (tblP v q c)) []).1, true) := by
  obtain ⟨v', e, hv, hq, h1, h2, h3⟩ := okD_at (goodD_ok hg)
  obtain rfl : v' = v := by omega
  have h6 := pow6 v' hv
  have hbv : 2 ^ n < 2 ^ v' := Nat.pow_lt_pow_right (by decide) hn
  have hm := impl_FixVar_mapf v' hv (fun k => impl_FixVar.pr k (v' : Int) q c so ((2 ^ n : Nat) : Int)) (fun i => evP q (bitB (fixI so (2 ^ n) i)) 64 c) (fun i hi2 => by
    unfold impl_FixVar.pr
    have hlt := fixI_lt so v' (2 ^ n) i hi2 hbv
    rw [bits_or i (2 ^ n) (by omega) (by omega), bits_andNot i (2 ^ n) (by omega) (by omega)]
    by_cases hso : so = true
    · have ef : fixI so (2 ^ n) i = i ||| 2 ^ n := by unfold fixI; rw [if_pos hso]
      rw [ef]; exact Ev.pos hso (value_ev v' q hq hv h3 (v' : Int) c _ h1 h2)
    · have ef : fixI so (2 ^ n) i = andn i (2 ^ n) := by unfold fixI; rw [if_neg hso]
      rw [ef]; exact Ev.neg hso (value_ev v' q hq hv h3 (v' : Int) c _ h1 h2))
  rw [FX_tbl v' q c so n hn] at hm
  have ew : wrap64 ((n : Int) + 1 - 1) = (n : Int) := by rw [wrap_id _ (by omega) (by omega)]; omega
  unfold impl_FixVar.f
  refine Ev.bind (goodI_ev _ _ _ (by omega)) (Ev.pos hg (Ev.bindE (impl_in_eq ..) (Ev.pos (In_true.2 (by omega)) ?_)))
  rw [ew, shl_one n (by omega)]
  exact Ev.pos (by omega) (Ev.bind hm (Ev.now _))
theorem ones_val (v : Nat) (q : List S75) (c : Int) (hg : goodD (v : Int) q c = true) : Ev (fun k => impl_OnesOf.f k (v : Int) q c) (((cnt (tblP v q c) : Nat) : Int), true) := by
  obtain ⟨v', e, hv, hq, h1, h2, h3⟩ := okD_at (goodD_ok hg)
  obtain rfl : v' = v := by omega
  have h6 := pow6 v' hv
  have h := onesI_loop (tblP v' q c) (by rw [tblP_len]; omega) (tblP v' q c).length 0 0 (by omega) (by omega)
  rw [List.drop_zero, Nat.zero_add] at h
  unfold impl_OnesOf.f
  exact Ev.bind (goodI_ev _ _ _ (by omega)) (Ev.pos hg (Ev.bind (table_ev v' q hq hv h3 c h1 h2) h))
def TC (v : Nat) (l : List (List Int)) : List Bool := (List.range (2 ^ v)).map (fun (i : Nat) => holdsB (modelM v (i : Int)) l)
theorem TC_len (v : Nat) (l : List (List Int)) : (TC v l).length = 2 ^ v := by simp [TC]
theorem byI_bad (v : Int) (l : List (List Int)) (hl : Rows l) (h : ¬ (GoodC v l = true ∧ v ≤ 6)) : Ev (fun k => impl_ByClauses.f k v l) (0, [], 0, false) := by
  unfold impl_ByClauses.f
  refine Ev.bind (goodCI v l hl) ?_
  by_cases hg : GoodC v l = true
  · exact Ev.pos hg (Ev.pos (by have : ¬ v ≤ 6 := fun q => h ⟨hg, q⟩; omega) (Ev.now _))
  · exact Ev.neg hg (Ev.now _)
theorem byI_good (v : Nat) (hv : v ≤ 6) (l : List (List Int)) (hl : Rows l) (hg : GoodC (v : Int) l = true) : Ev (fun k => impl_ByClauses.f k (v : Int) l) ((v : Int), (bld v 1 (TC v l) []).2, (bld v 1 (TC v l) []).1, true) := by
  obtain ⟨_, hlit⟩ := GoodC_lits hg
  have hm := impl_ByClauses_mapf v hv (fun k => impl_ByClauses.pr k l (v : Int)) (fun i => holdsB (modelM v (i : Int)) l) (fun i hi => by
    unfold impl_ByClauses.pr
    exact Ev.bind (impl_model_ev v (by omega) (i : Int)) (holdsI v (by omega) _ (modelM_len v _) l hlit))
  unfold impl_ByClauses.f
  exact Ev.bind (goodCI (v : Int) l hl) (Ev.pos hg (Ev.neg (by omega) (Ev.bind hm (Ev.now _))))
theorem TC_app (v : Nat) (a b : List (List Int)) : List.zipWith (fun x y => x && y) (TC v a) (TC v b) = TC v (a ++ b) := by
  unfold TC
  rw [List.zipWith_map, List.zipWith_self]
  refine List.map_congr_left (fun i _ => ?_)
  unfold holdsB
  rw [List.all_append]
theorem GoodC_part {v : Int} {l a b : List (List Int)} (e : l = a ++ b) (h : GoodC v l = true) : GoodC v a = true ∧ GoodC v b = true := by
  subst e
  unfold GoodC at h ⊢
  simp only [Bool.and_eq_true, decide_eq_true_eq, List.all_append, List.length_append] at h ⊢
  exact ⟨⟨h.1, by omega, h.2.2.1⟩, ⟨h.1, by omega, h.2.2.2⟩⟩
theorem byS_loop (v : Nat) (hv : v ≤ 6) (l : List (List Int)) (hlit : LitsIn v l) : ∀ (d i : Nat) (acc : List Bool), acc.length ≤ i → i + d = 2 ^ v → acc ++ (List.range' i d).map (fun (i : Nat) => holdsB (modelM v (i : Int)) l) = TC v l → Ev (fun k => spec_ByClauses.l0 k (v : Int) l acc (i : Int)) ((v : Int), (bld v 1 (TC v l) []).2, (bld v 1 (TC v l) []).1, true)
  | 0, i, acc, ha, h, e => by
    have e' : acc = TC v l := by rw [← e]; simp
    rw [e']
    refine Ev.step (fun k => spec_ByClauses.l0.eq_2 ..) ?_
    rw [u64_nat v (by omega), shl_one v (by omega)]
    exact Ev.pos (by omega) (Ev.neg (by omega) (Ev.bind (l7Of_ev v hv _ (TC_len v l)) (Ev.now _)))
  | d + 1, i, acc, ha, h, e => by
    have h6 := pow6 v hv
    refine Ev.step (fun k => spec_ByClauses.l0.eq_2 ..) ?_
    rw [u64_nat v (by omega), shl_one v (by omega)]
    refine Ev.pos (by omega) (Ev.pos (by omega) (Ev.bind (spec_l4Model_ev v (by omega) (i : Int)) (Ev.bind (holdsS v (by omega) _ (modelM_len v _) l hlit) (Ev.pos (by omega) ?_))))
    rw [w1 i (by omega)]
    exact byS_loop v hv l hlit d (i + 1) _ (by simp; omega) (by omega) (by rw [← e, List.range'_succ]; simp)
theorem byS_good (v : Nat) (hv : v ≤ 6) (l : List (List Int)) (hl : Rows l) (hg : GoodC (v : Int) l = true) : Ev (fun k => spec_ByClauses.f k (v : Int) l) ((v : Int), (bld v 1 (TC v l) []).2, (bld v 1 (TC v l) []).1, true) := by
  obtain ⟨_, hlit⟩ := GoodC_lits hg
  have h6 := pow6 v hv
  unfold spec_ByClauses.f
  refine Ev.bind (goodCS (v : Int) l hl) (Ev.pos hg ?_)
  rw [decide_eq_false (show ¬ (v : Int) > 6 by omega)]
  exact Ev.step (fun k => spec_ByClauses.j0.eq_2 ..) (Ev.neg (by simp) (byS_loop v hv l hlit (2 ^ v) 0 [] (by simp) (by omega) (by rw [List.nil_append, ← List.range_eq_range']; rfl)))
theorem byS_bad (v : Int) (l : List (List Int)) (hl : Rows l) (h : ¬ (GoodC v l = true ∧ v ≤ 6)) : Ev (fun k => spec_ByClauses.f k v l) (0, [], 0, false) := by
  have bad : Ev (fun k => spec_ByClauses.j0 k v l true) (0, [], 0, false) := Ev.step (fun k => spec_ByClauses.j0.eq_2 ..) (Ev.pos rfl (Ev.now _))
  unfold spec_ByClauses.f
  refine Ev.bind (goodCS v l hl) ?_
  by_cases hg : GoodC v l = true
  · refine Ev.pos hg ?_
    rw [decide_eq_true (show v > 6 by have : ¬ v ≤ 6 := fun q => h ⟨hg, q⟩; omega)]
    exact bad
  · exact Ev.neg hg bad
theorem count_loop (v : Nat) (hv : v ≤ 12) (l : List (List Int)) (hlit : LitsIn v l) (N : Nat) (hN : N ≤ 1048576) : ∀ (d i m : Nat), i + d = N → m ≤ i → Ev (fun k => impl_countModels.l0 k (v : Int) l (m : Int) (N : Int) (i : Int)) (((m + cnt ((List.range' i d).map (fun (i : Nat) => holdsB (modelM v (i : Int)) l)) : Nat) : Int))
  | 0, i, m, h, hm => Ev.step (fun k => impl_countModels.l0.eq_2 ..) (Ev.neg (by omega) (Ev.at_ (Ev.now _) (by simp [cnt])))
  | d + 1, i, m, h, hm => by
    have e2 : ∀ (b : Bool) (u : List Bool), cnt (b :: u) = if b = true then cnt u + 1 else cnt u := fun _ _ => rfl
    rw [List.range'_succ, List.map_cons, e2]
    refine Ev.step (fun k => impl_countModels.l0.eq_2 ..) (Ev.pos (by omega) (Ev.bind (impl_model_ev v (by omega) (i : Int)) (Ev.bind (holdsI v hv _ (modelM_len v _) l hlit) ?_)))
    rw [w1 i (by omega), w1 m (by omega)]
    by_cases hb : holdsB (modelM v (i : Int)) l = true
    · rw [if_pos hb]
      refine Ev.pos hb (Ev.at_ (count_loop v hv l hlit N hN d (i + 1) (m + 1) (by omega) (by omega)) ?_)
      congr 1; omega
    · rw [if_neg hb]
      exact Ev.neg hb (count_loop v hv l hlit N hN d (i + 1) m (by omega) (by omega))
theorem countModels_val (v : Nat) (hv : v ≤ 6) (l : List (List Int)) (hl : Rows l) (hg : GoodC (v : Int) l = true) : Ev (fun k => impl_CountModels.f k (v : Int) l) (((cnt (TC v l) : Nat) : Int), true) := by
  obtain ⟨_, hlit⟩ := GoodC_lits hg
  have h6 := pow6 v hv
  have h := count_loop v (by omega) l hlit (2 ^ v) (by omega) (2 ^ v) 0 0 (by omega) (by omega)
  rw [← List.range_eq_range', Nat.zero_add] at h
  unfold impl_CountModels.f impl_countModels.f
  refine Ev.bind (goodCI (v : Int) l hl) (Ev.pos hg (Ev.bind (Ev.pos (by omega) ?_) (Ev.now _)))
  rw [shl_one v (by omega)]
  exact h
theorem bothOf_val (v : Nat) (hv : v ≤ 6) (s t : List Bool) (hs : s.length = 2 ^ v) (ht : t.length = 2 ^ v) : Ev (fun k => impl_BothOf.f k (v : Int) (bld v 1 s []).2 (bld v 1 s []).1 (v : Int) (bld v 1 t []).2 (bld v 1 t []).1) ((v : Int), (bld v 1 (List.zipWith (fun a b => a && b) s t) []).2, (bld v 1 (List.zipWith (fun a b => a && b) s t) []).1, true) := by
  have hg := bld_good v hv s hs
  have hg' := bld_good v hv t ht
  have e1 := bld_tbl v hv s hs
  have e2 := bld_tbl v hv t ht
  obtain ⟨v1, q1, _, hq, h1, h2, h3⟩ := okD_at (goodD_ok hg)
  obtain rfl : v1 = v := by omega
  obtain ⟨v2, q2, _, hq', h1', h2', h3'⟩ := okD_at (goodD_ok hg')
  obtain rfl : v2 = v1 := by omega
  have hm := bothI_mapf v2 hv (bld v2 1 s []).2 (bld v2 1 t []).2 (bld v2 1 s []).1 (bld v2 1 t []).1 hq h1 h2 h3 hq' h1' h2' h3'
  rw [e1, e2] at hm
  unfold impl_BothOf.f
  exact Ev.bind (goodI_ev _ _ _ (by omega)) (Ev.pos hg (Ev.bind (goodI_ev _ _ _ (by omega)) (Ev.pos hg' (Ev.pos rfl (Ev.bind hm (Ev.now _))))))
theorem clean_ok (x : List Int) (hx : x.length ≤ 40) : ∀ (d i : Nat) (out : List Int), i + d = x.length → out.length ≤ i → EvP (fun k => spec_CleanClause.l0 k out x (x.length : Int) (i : Int)) (fun r => r.1.length ≤ 40)
  | 0, i, out, h, ho => EvP.step (fun k => spec_CleanClause.l0.eq_2 ..) (EvP.neg (by omega) (EvP.now _ (by simp only; omega)))
  | d + 1, i, out, h, ho => by
    have ih := clean_ok x hx d (i + 1)
    have hj : ∀ (z : Int) (b : Bool), EvP (fun k => spec_CleanClause.j1 k out z x (x.length : Int) (i : Int) b) (fun r => r.1.length ≤ 40) := fun z b => by
      refine EvP.step (fun k => spec_CleanClause.j1.eq_2 ..) (EvP.ite (fun _ => EvP.now _ (by simp)) (fun _ => ?_))
      rw [w1 i (by omega)]
      refine EvP.bind (P := fun _ => True) ⟨_, l1Has_ev out z (by omega), trivial⟩ fun t _ => EvP.ite (fun _ => ih out (by omega) (by omega)) (fun _ => EvP.pos (by omega) (ih _ (by omega) (by simp; omega)))
    refine EvP.step (fun k => spec_CleanClause.l0.eq_2 ..) (EvP.pos (by omega) (EvP.pos (by omega) (EvP.pos (by omega) (EvP.ite (fun _ => hj _ _) (fun _ => ?_)))))
    refine EvP.bindE (P := fun _ => True) ⟨_, spec_l1In_eq .., trivial⟩ fun t _ => EvP.ite (fun _ => ?_) (fun _ => hj _ _)
    exact EvP.bind (P := fun _ => True) ⟨_, l1Has_ev out _ (by omega), trivial⟩ fun t _ => hj _ _
theorem clean_ev (x : List Int) (hx : x.length ≤ 40) : EvP (fun k => spec_CleanClause.f k x) (fun r => r.1.length ≤ 40) := by
  unfold spec_CleanClause.f
  exact EvP.neg (by omega) (clean_ok x hx x.length 0 [] (by omega) (by simp))
theorem lit_ok {l : List Int} (hl : Bytes l) (a s v : Int) (h0 : 0 ≤ a) (h1 : a ≤ 1152921504606846000) : ∃ r : Int × Int × Int, spec_l1Cur_lit.f l a s v = some r ∧ a ≤ r.2.1 ∧ r.2.1 ≤ a + 4 := by
  unfold spec_l1Cur_lit.f
  obtain ⟨p, e1, _, g1, g2⟩ := pick_ok hl a s v h0 (by omega)
  rw [e1]; simp only [Option.bind_some]
  obtain ⟨q, e2, g3, g4⟩ := one_ok hl p.2.1 p.2.2 2 (by omega) (by omega)
  rw [e2]; simp only [Option.bind_some]
  by_cases c : q.1 = true
  · rw [if_pos c]; exact ⟨_, rfl, by simp only; omega, by simp only; omega⟩
  · rw [if_neg c]; exact ⟨_, rfl, by simp only; omega, by simp only; omega⟩
def Short (n m : Nat) (l : List (List Int)) : Prop := l.length ≤ n ∧ ∀ c, c ∈ l → c.length ≤ m
theorem Short.snoc {n m : Nat} {l : List (List Int)} {c : List Int} (h : Short n m l) (hc : c.length ≤ m) : Short (n + 1) m (l ++ [c]) :=
  ⟨by have := h.1; simp; omega, fun x hx => by
    rcases List.mem_append.1 hx with hx | hx
    · exact h.2 x hx
    · rw [List.mem_singleton] at hx; subst hx; exact hc⟩
theorem clauses_loop {l : List Int} (hl : Bytes l) (v : Int) : ∀ (N : Nat) (rows : List (List Int)) (a s : Int) (n : Nat), n + N ≤ 14 → Short n 40 rows → 0 ≤ a → a + 20 * (N : Int) ≤ 2000 → EvP (fun k => spec_l1Cur_clauses.l0 k v rows (N : Int) l a s) (fun r => Short 14 41 r.2.1)
  | 0, rows, a, s, n, hn, hr, h0, h1 => by
    have hend : Short 14 41 rows := ⟨by have := hr.1; omega, fun c hc => by have := hr.2 c hc; omega⟩
    refine EvP.step (fun k => spec_l1Cur_clauses.l0.eq_2 ..) (EvP.neg (by omega) (EvP.ite (fun hlen => ?_) (fun _ => EvP.now _ hend)))
    refine EvP.bindE (one_ok hl a s 30 h0 (by omega)) fun r hr1 => EvP.ite (fun _ => EvP.pos hlen ?_) (fun _ => EvP.now _ hend)
    have hc0 : rd_L6 rows 0 = rows[0]'(by omega) := rdL_nat rows 0 (by omega)
    have hlen0 := hr.2 (rows[0]'(by omega)) (List.getElem_mem _)
    refine EvP.bindE (among_ok hl _ _ _ (by simp) (by simp) (by omega) (by omega)) fun r2 hr2 => ?_
    rw [hc0]
    refine EvP.pos (by omega) (EvP.now _ ⟨by have := hend.1; simpa using this, fun c hc => ?_⟩)
    rcases List.mem_or_eq_of_mem_set hc with hc | rfl
    · exact hend.2 c hc
    · simp; omega
  | N + 1, rows, a, s, n, hn, hr, h0, h1 => by
    have inner : ∀ (m : Nat) (x : List Int) (a s : Int), x.length + m ≤ 3 → 0 ≤ a → a + 4 * (m : Int) + 20 * (N : Int) ≤ 2000 → EvP (fun k => spec_l1Cur_clauses.l1 k v rows ((N + 1 : Nat) : Int) x (m : Int) l a s) (fun r => Short 14 41 r.2.1) := by
      intro m
      induction m with
      | zero =>
        intro x a s hx h0 h1
        refine EvP.step (fun k => spec_l1Cur_clauses.l1.eq_2 ..) (EvP.neg (by omega) (EvP.bind (clean_ev x (by omega)) fun r hr1 => ?_))
        rw [show wrap64 (((N + 1 : Nat) : Int) - 1) = (N : Int) by unfold wrap64; omega]
        have := hr.1
        refine EvP.ite (fun _ => EvP.pos (by omega) (clauses_loop hl v N _ a s (n + 1) (by omega) (hr.snoc hr1) h0 (by omega))) (fun _ => clauses_loop hl v N rows a s n (by omega) hr h0 (by omega))
      | succ m ih =>
        intro x a s hx h0 h1
        refine EvP.step (fun k => spec_l1Cur_clauses.l1.eq_2 ..) (EvP.pos (by omega) (EvP.bindE (lit_ok hl a s v h0 (by omega)) fun r hr1 => EvP.pos (by omega) ?_))
        rw [show wrap64 (((m + 1 : Nat) : Int) - 1) = (m : Int) by unfold wrap64; omega]
        exact ih _ _ _ (by simp; omega) (by omega) (by omega)
    refine EvP.step (fun k => spec_l1Cur_clauses.l0.eq_2 ..) (EvP.pos (by omega) (EvP.bindE (pick_ok hl a s 3 h0 (by omega)) fun r hr1 => ?_))
    obtain ⟨m, hm⟩ := Int.eq_ofNat_of_zero_le (show 0 ≤ r.1 by omega)
    rw [hm, show wrap64 (1 + (m : Int)) = ((m + 1 : Nat) : Int) by unfold wrap64; omega]
    exact inner (m + 1) [] _ _ (by simp; omega) (by omega) (by omega)
theorem clauses_ev {l : List Int} (hl : Bytes l) : EvP (fun k => spec_l1Cur_clauses.f k l 0 0) (fun r => Short 14 41 r.2.1) := by
  have hj : ∀ (v a s : Int), 0 ≤ a → a ≤ 100 → EvP (fun k => spec_l1Cur_clauses.j0 k v l a s) (fun r => Short 14 41 r.2.1) := by
    intro v a s h0 h1
    refine EvP.step (fun k => spec_l1Cur_clauses.j0.eq_2 ..) (EvP.bindE (pick_ok hl a s 14 h0 (by omega)) fun r hr => EvP.ite (fun _ => ?_) (fun _ => ?_)) <;> refine EvP.step (fun k => spec_l1Cur_clauses.j1.eq_2 ..) ?_
    · exact clauses_loop hl v 0 [] _ _ 0 (by omega) ⟨by simp, fun c hc => by simp at hc⟩ (by omega) (by omega)
    · obtain ⟨m, hm⟩ := Int.eq_ofNat_of_zero_le (show 0 ≤ r.1 by omega)
      rw [hm]
      exact clauses_loop hl v m [] _ _ 0 (by omega) ⟨by simp, fun c hc => by simp at hc⟩ (by omega) (by omega)
  unfold spec_l1Cur_clauses.f
  refine EvP.bindE (pick_ok hl 0 0 6 (by omega) (by omega)) fun r hr => EvP.bindE (one_ok hl _ _ 30 (by omega) (by omega)) fun r2 hr2 => EvP.ite (fun _ => ?_) (fun _ => hj _ _ _ (by omega) (by omega))
  exact EvP.bindE (among_ok hl _ _ _ (by simp) (by simp) (by omega) (by omega)) fun r3 hr3 => hj _ _ _ (by omega) (by omega)
theorem drawByClauses {l : List Int} (hl : Bytes l) : EvP (fun k => spec_DrawByClauses.f k l) (fun r => Rows r.2) := by
  unfold spec_DrawByClauses.f
  refine EvP.bind (P := fun r => Rows r.2) ?_ (fun r hr => EvP.now _ hr)
  unfold spec_DrawGoodClauses.f
  refine EvP.bind (clauses_ev hl) (fun r hr => EvP.now _ ⟨by have := hr.1; simp only; omega, fun c hc => by have := hr.2 c hc; omega⟩)
theorem drawFixVar_ok {l : List Int} (hl : Bytes l) : EvP (fun k => spec_DrawFixVar.f k l) (fun r => r.2.1.length ≤ 100 ∧ 0 ≤ r.2.2.2.1 ∧ r.2.2.2.1 ≤ 100) := by
  unfold spec_DrawFixVar.f
  obtain ⟨m, a1, s1, e1, h1, h2, h3⟩ := nat_pick hl 0 0 5 (by omega) (by omega) (by omega)
  refine EvP.bindE (P := fun r => r = ((m : Int), a1, s1)) ⟨_, e1, rfl⟩ fun r0 h0 => ?_
  subst h0
  refine EvP.bind (diagram_draw hl m (by omega) a1 s1 (by omega) (by omega)) fun r hr => ?_
  have hw : wrap64 ((m : Int) + 2) = (m : Int) + 2 := wrap_id _ (by omega) (by omega)
  simp only [hw]
  refine EvP.bindE (pick_ok hl _ _ ((m : Int) + 2) (by omega) (by omega)) fun p hp => EvP.bindE (one_ok hl _ _ 2 (by omega) (by omega)) fun z hz => EvP.now _ ?_
  exact ⟨hr.1, by simp only; omega, by simp only; omega⟩
theorem drawBothOf_ok {l : List Int} (hl : Bytes l) : EvP (fun k => spec_DrawBothOf.f k l) (fun r => r.2.1.length ≤ 100 ∧ r.2.2.2.2.1.length ≤ 100) := by
  unfold spec_DrawBothOf.f
  obtain ⟨m, a1, s1, e1, h1, h2, h3⟩ := nat_pick hl 0 0 5 (by omega) (by omega) (by omega)
  refine EvP.bindE (P := fun r => r = ((m : Int), a1, s1)) ⟨_, e1, rfl⟩ fun r0 h0 => ?_
  subst h0
  refine EvP.bind (diagram_drawB hl m (by omega) a1 s1 (by omega) 90 (by omega) (by omega)) fun r hr => ?_
  refine EvP.bindE (pick_ok hl _ _ 20 (by omega) (by omega)) fun p hp => ?_
  obtain ⟨y, hy, hy2⟩ := tdiv19 m p.1 (by omega) (by omega) (by omega)
  simp only [hy]
  exact EvP.bind (diagram_drawB hl y (by omega) _ _ (by omega) 1000 (by omega) (by omega)) fun r2 hr2 => EvP.now _ ⟨hr.1, hr2.1⟩
theorem i64_wf {x : Int} (h0 : 0 ≤ x) (h1 : x ≤ 100) : (Lit.int .i64 x).wf = true := by
  show (decide (IntKind.i64.min ≤ x) && decide (x ≤ IntKind.i64.max)) = true
  have e1 : IntKind.i64.min = -9223372036854775808 := by decide
  have e2 : IntKind.i64.max = 9223372036854775807 := by decide
  rw [e1, e2, decide_eq_true (by omega), decide_eq_true (by omega)]; rfl
theorem nodes_loop (x : Int) (so : Bool) (f0 f2 : Int) (q : List S75) (c a : Int) (r : List S75) (hr : r.length ≤ 1048576) (hn : ∀ n, n ∈ r → n.f0 ≠ x) (g : Int → Int × List S75 × Int)
    (tail : Ev (fun k => laws_FnByClauses.l0 k x so r (r.length : Int) (r.length : Int) a q c f0 r f2) true) : ∀ (d i : Nat), i + d = r.length → Ev (fun k => laws_FnByClauses.l0 k x so r (r.length : Int) (i : Int) a q c f0 r f2) true
  | 0, i, h => by
    have e : i = r.length := by omega
    rw [e]; exact tail
  | d + 1, i, h => by
    have hi : i < r.length := by omega
    refine Ev.step (fun k => laws_FnByClauses.l0.eq_2 ..) (Ev.pos (by omega) (Ev.pos (by omega) (Ev.pos (by omega) (Ev.neg ?_ ?_))))
    · rw [Nodeb_nat r i hi]; exact hn _ (List.getElem_mem hi)
    · rw [w1 i (by omega)]; exact nodes_loop x so f0 f2 q c a r hr hn g tail d (i + 1) (by omega)
theorem byClauses_tail {l : List Int} (hl : Bytes l) : Ev (fun k => laws_FnByClauses.j1 k l) true := by
  obtain ⟨⟨a, q, c, x, so⟩, e1, hq, hx0, hx1⟩ := drawFixVar_ok hl
  obtain ⟨⟨b0, p, b1, d0, s, d1⟩, e2, hp, hs⟩ := drawBothOf_ok hl
  simp only at hq hx0 hx1 hp hs
  obtain ⟨⟨r0, r1, r2, ok⟩, a1, a2, a3⟩ := fixVar_both a q c x so (i64_wf hx0 hx1) (by omega)
  obtain ⟨⟨u0, u1, u2, ok2⟩, c1, c2, c3⟩ := bothOf_both b0 p b1 d0 s d1 (by omega) (by omega)
  simp only at a3 c3
  refine Ev.step (fun k => laws_FnByClauses.j1.eq_2 ..) (Ev.bind e1 <| Ev.bind a2 <| Ev.bind a1 <| Ev.bind e2 <| Ev.bind c2 <| Ev.bind c1 <| Ev.neg (by simp) <| Ev.bind (sameDiagram_self r0 r2 r1 (by omega)) <| Ev.pos rfl <| Ev.neg (by simp) <| Ev.bind (sameDiagram_self u0 u2 u1 (by omega)) ?_)
  refine Ev.step (fun k => laws_FnByClauses.j2.eq_2 ..) (Ev.neg (by simp) ?_)
  by_cases hg : goodD a q c = true
  · obtain ⟨v, rfl, hv, _, _, _, _⟩ := okD_at (goodD_ok hg)
    by_cases hxi : In x 1 (v : Int) = true
    · have hxi' := In_true.1 hxi
      obtain ⟨n, hn⟩ := Int.eq_ofNat_of_zero_le (show 0 ≤ x - 1 by omega)
      obtain rfl : x = (n : Int) + 1 := by omega
      have hnv : n < v := by omega
      have f1 := fixVar_val v q c hg so n hnv
      have f2 := fixVar_val v q c hg (!so) n hnv
      have hF := FX_len so n v (tblP v q c)
      have hG := FX_len (!so) n v (tblP v q c)
      have o0 := ones_val v q c hg
      have o1 := ones_val v _ _ (bld_good v hv _ hF)
      have o2 := ones_val v _ _ (bld_good v hv _ hG)
      rw [bld_tbl v hv _ hF] at o1
      rw [bld_tbl v hv _ hG] at o2
      have h6 := pow6 v hv
      have hcnt : cnt (FX so n v (tblP v q c)) + cnt (FX (!so) n v (tblP v q c)) = 2 * cnt (tblP v q c) := by
        have := cnt_FX v n (tblP v q c) hnv (tblP_len v q c)
        cases so
        · show cnt (FX false n v (tblP v q c)) + cnt (FX true n v (tblP v q c)) = _; omega
        · exact this
      have k1 := cnt_le (FX so n v (tblP v q c))
      have k2 := cnt_le (FX (!so) n v (tblP v q c))
      have k3 := cnt_le (tblP v q c)
      rw [tblP_len] at k3
      have er := Ev.one a2 f1
      simp only [Prod.mk.injEq] at er
      obtain ⟨rfl, rfl, rfl, rfl⟩ := er
      refine Ev.pos rfl ?_
      refine nodes_loop ((n : Int) + 1) so (v : Int) (bld v 1 (FX so n v (tblP v q c)) []).1 q c (v : Int) (bld v 1 (FX so n v (tblP v q c)) []).2 (by omega) (fun m hm => ?_) (fun _ => (0, [], 0)) ?_ (bld v 1 (FX so n v (tblP v q c)) []).2.length 0 (by omega)
      · rcases bld_FX so v n 1 (tblP v q c) [] m hnv (tblP_len v q c) hm with h | h
        · simp at h
        · omega
      · refine Ev.step (fun k => laws_FnByClauses.l0.eq_2 ..) (Ev.neg (by omega) (Ev.bind f2 <| Ev.bind o1 <| Ev.bind o2 <| Ev.bind o0 <| Ev.pos rfl <| Ev.pos rfl <| Ev.pos rfl <| Ev.pos rfl <| Ev.at_ (Ev.now _) ?_))
        simp only
        rw [wrap_id _ (by omega) (by omega), wrap_id _ (by omega) (by omega), beq_iff_eq]
        omega
    · have f0 : Ev (fun k => impl_FixVar.f k (v : Int) q c x so) (0, [], 0, false) := by
        unfold impl_FixVar.f
        exact Ev.bind (goodI_ev _ _ _ (by omega)) (Ev.pos hg (Ev.bindE (impl_in_eq ..) (Ev.neg hxi (Ev.now _))))
      have er := Ev.one a2 f0
      simp only [Prod.mk.injEq] at er
      obtain ⟨rfl, rfl, rfl, rfl⟩ := er
      exact Ev.neg (by simp) (Ev.now _)
  · have f0 : Ev (fun k => impl_FixVar.f k a q c x so) (0, [], 0, false) := by
      unfold impl_FixVar.f
      exact Ev.bind (goodI_ev _ _ _ (by omega)) (Ev.neg hg (Ev.now _))
    have er := Ev.one a2 f0
    simp only [Prod.mk.injEq] at er
    obtain ⟨rfl, rfl, rfl, rfl⟩ := er
    exact Ev.neg (by simp) (Ev.now _)
theorem FnByClauses : laws_FnByClauses.Pure := by
  intro l0 l1 _ y0 hw0 _ y1 hw1
  refine Ev.rounds ?_
  unfold laws_FnByClauses.f
  by_cases hlen : wrap64 ((l0.length : Int) + (l1.length : Int)) > 1048576
  · exact Ev.pos hlen (Ev.now _)
  refine Ev.neg hlen ?_
  obtain ⟨s0, s1⟩ := small_of hlen y0 y1
  have hb0 := bytes_of ⟨y0, hw0⟩ s0
  have hb1 := bytes_of ⟨y1, hw1⟩ s1
  obtain ⟨⟨vars, l⟩, e, hl⟩ := drawByClauses hb0
  simp only at hl
  have htail := byClauses_tail hb1
  by_cases hg : GoodC vars l = true ∧ vars ≤ 6
  · have hv0 : 0 ≤ vars := by
      have h := hg.1
      unfold GoodC at h
      rw [Bool.and_eq_true, In_true] at h; omega
    obtain ⟨v, rfl⟩ := Int.eq_ofNat_of_zero_le hv0
    have hv : v ≤ 6 := by omega
    have h6 := pow6 v hv
    have hbl := bld_len v 1 (TC v l) []
    rw [List.length_nil] at hbl
    have d1 := byI_good v hv l hl hg.1
    have d2 := byS_good v hv l hl hg.1
    have hD := bld_good v hv (TC v l) (TC_len v l)
    have o := ones_val v _ _ hD
    rw [bld_tbl v hv _ (TC_len v l)] at o
    have cm := countModels_val v hv l hl hg.1
    obtain ⟨nn, hnE0, hn0, hn1⟩ := numberOf_loop hb1 l1.length 0 0 (by omega) (by omega) (by omega)
    have hnE : Ev (fun k => laws_numberOf.f k l1) nn := hnE0
    have hlw : wrap64 ((l.length : Int) + 1) = (l.length : Int) + 1 := wrap_id _ (by have := hl.1; omega) (by have := hl.1; omega)
    have hk := tmod_lt (x := nn) (n := (l.length : Int) + 1) hn0 (by omega)
    obtain ⟨j, hj⟩ := Int.eq_ofNat_of_zero_le hk.1
    have hjl : j ≤ l.length := by omega
    have hpart := GoodC_part (List.take_append_drop j l).symm hg.1
    have ra : Rows (l.take j) := ⟨by rw [List.length_take]; have := hl.1; omega, fun c hc => hl.2 c (List.mem_of_mem_take hc)⟩
    have rb : Rows (l.drop j) := ⟨by rw [List.length_drop]; have := hl.1; omega, fun c hc => hl.2 c (List.mem_of_mem_drop hc)⟩
    have da := byI_good v hv (l.take j) ra hpart.1
    have db := byI_good v hv (l.drop j) rb hpart.2
    have dc := bothOf_val v hv (TC v (l.take j)) (TC v (l.drop j)) (TC_len ..) (TC_len ..)
    rw [TC_app, List.take_append_drop] at dc
    refine Ev.bind e (Ev.bind d1 (Ev.bind d2 (Ev.neg (by simp) (Ev.bind (sameDiagram_self _ _ _ (by show (bld v 1 (TC v l) []).2.length ≤ 1048576; omega)) ?_))))
    refine Ev.step (fun k => laws_FnByClauses.j0.eq_2 ..) (Ev.neg (by simp) (Ev.pos rfl (Ev.bind o (Ev.bind cm (Ev.bind hnE ?_)))))
    rw [hlw, hj, Int.toNat_natCast]
    dsimp only
    refine Ev.neg (by omega) (Ev.pos (by omega) (Ev.pos (by omega) (Ev.bind da (Ev.bind db (Ev.bind dc (Ev.pos rfl (Ev.pos rfl (Ev.pos rfl (Ev.pos rfl (Ev.pos rfl (Ev.pos rfl (Ev.bind (sameDiagram_self _ _ _ (by show (bld v 1 (TC v l) []).2.length ≤ 1048576; omega)) (Ev.pos rfl htail)))))))))))))
  · have d1 := byI_bad vars l hl hg
    have d2 := byS_bad vars l hl hg
    refine Ev.bind e (Ev.bind d1 (Ev.bind d2 (Ev.neg (by simp) (Ev.bind (sameDiagram_self _ _ _ (by simp)) ?_))))
    exact Ev.step (fun k => laws_FnByClauses.j0.eq_2 ..) (Ev.neg (by simp) (Ev.neg (by simp) htail))
end Go.Proofs.Ytpndhlcbfobelaa.Pure
