import Derived.Test.YtpndhlcbfobelaaPDDx10
import Derived.Test.YtpndhlcbfobelaaPDDx11
import Derived.Test.YtpndhlcbfobelaaPDDx12
import Derived.Test.YtpndhlcbfobelaaPDDx13
import Derived.Test.YtpndhlcbfobelaaPDDx2
import Derived.Test.YtpndhlcbfobelaaPDDx3
import Derived.Test.YtpndhlcbfobelaaPDDx4
import Derived.Test.YtpndhlcbfobelaaPDDx5
import Derived.Test.YtpndhlcbfobelaaPDDx6
import Derived.Test.YtpndhlcbfobelaaPDDx7
import Derived.Test.YtpndhlcbfobelaaPDDx8
import Derived.Test.YtpndhlcbfobelaaPDDx9
namespace Go.Proofs.Ytpndhlcbfobelaa.Pure
open Go Go.RowKit Go.Proofs.Ytpndhlcbfobelaa.PDD Go.Proofs.YtpndhlcbfobelaaW.PrintWords Go.Proofs.YtpndhlcbfobelaaW.PrintLast Go.Proofs.YtpndhlcbfobelaaW.PrintMore
set_option linter.unusedVariables false
set_option linter.unusedSimpArgs false
def In (a lo hi : Int) : Bool := decide (lo ≤ a) && decide (a ≤ hi)
theorem In_true {a lo hi : Int} : In a lo hi = true ↔ lo ≤ a ∧ a ≤ hi := by simp [In]
theorem In_ite {a lo hi : Int} : (if a ≥ lo then some (decide (a ≤ hi)) else some false) = some (In a lo hi) := by
  unfold In; by_cases h : lo ≤ a <;> simp [h]
theorem spec_l1In_eq (a b c : Int) : spec_l1In.f a b c = some (In a b c) := by unfold spec_l1In.f; exact In_ite
theorem impl_in_eq (a b c : Int) : impl_in.f a b c = some (In a b c) := by unfold impl_in.f; exact In_ite
def andn (a b : Nat) : Nat := a ^^^ (a &&& b)
theorem wrap_i64_nat (n : Nat) (h : n < 9223372036854775808) : IntKind.i64.wrap (n : Int) = n := by
  rw [IntKind.wrap_i64]; omega
theorem ofInt_nat (n : Nat) : BitVec.ofInt 64 (n : Int) = BitVec.ofNat 64 n := BitVec.ofInt_natCast 64 n
theorem bits_and (a b : Nat) (ha : a < 9223372036854775808) (hb : b < 9223372036854775808) : Go.bits .and .i64 a b = ((a &&& b : Nat) : Int) := by
  show IntKind.i64.wrap (((BitVec.ofInt 64 (a : Int)) &&& (BitVec.ofInt 64 (b : Int))).toNat : Int) = _
  rw [ofInt_nat, ofInt_nat, BitVec.toNat_and, BitVec.toNat_ofNat, BitVec.toNat_ofNat, Nat.mod_eq_of_lt (by omega), Nat.mod_eq_of_lt (by omega)]
  exact wrap_i64_nat _ (Nat.lt_of_le_of_lt Nat.and_le_left ha)
theorem or_lt63 {a b : Nat} (ha : a < 9223372036854775808) (hb : b < 9223372036854775808) : a ||| b < 9223372036854775808 := Nat.or_lt_two_pow (n := 63) ha hb
theorem bits_or (a b : Nat) (ha : a < 9223372036854775808) (hb : b < 9223372036854775808) : Go.bits .or .i64 a b = ((a ||| b : Nat) : Int) := by
  show IntKind.i64.wrap (((BitVec.ofInt 64 (a : Int)) ||| (BitVec.ofInt 64 (b : Int))).toNat : Int) = _
  rw [ofInt_nat, ofInt_nat, BitVec.toNat_or, BitVec.toNat_ofNat, BitVec.toNat_ofNat, Nat.mod_eq_of_lt (by omega), Nat.mod_eq_of_lt (by omega)]
  exact wrap_i64_nat _ (or_lt63 ha hb)
theorem Ev.pos {α : Type} {c : Prop} [Decidable c] {A B : Nat → Option α} {r : α} (h : c) (e : Ev A r) : Ev (fun k => if c then A k else B k) r := Ev.congr (fun _ => if_pos h) e
theorem Ev.neg {α : Type} {c : Prop} [Decidable c] {A B : Nat → Option α} {r : α} (h : ¬ c) (e : Ev B r) : Ev (fun k => if c then A k else B k) r := Ev.congr (fun _ => if_neg h) e
theorem Ev.bindE {α β : Type} {g : Option α} {f : Nat → α → Option β} {a : α} {r : β} (h : g = some a) (k : Ev (fun n => f n a) r) : Ev (fun n => g.bind (f n)) r := by subst h; exact k
theorem Ev.at_ {α : Type} {g : Nat → Option α} {r r' : α} (h : Ev g r) (e : r = r') : Ev g r' := e ▸ h
theorem Ev.one {α : Type} {g : Nat → Option α} {r r' : α} (h : Ev g r) (h' : Ev g r') : r = r' := by
  obtain ⟨K, h⟩ := h; obtain ⟨K', h'⟩ := h'
  have a := h (max K K') (by omega); have b := h' (max K K') (by omega)
  rw [a] at b; exact Option.some.inj b
def Both {α : Type} (P : α → Prop) (g f : Nat → Option α) : Prop := ∃ r, Ev g r ∧ Ev f r ∧ P r
theorem Both.now {α : Type} {P : α → Prop} (r : α) (h : P r) : Both P (fun _ => some r) (fun _ => some r) := ⟨r, Ev.now r, Ev.now r, h⟩
theorem Both.mono {α : Type} {P Q : α → Prop} {g f : Nat → Option α} (h : Both P g f) (hq : ∀ r, P r → Q r) : Both Q g f := by obtain ⟨r, a, b, c⟩ := h; exact ⟨r, a, b, hq r c⟩
theorem Both.congrL {α : Type} {P : α → Prop} {g g' f : Nat → Option α} (e : ∀ k, g k = g' k) (h : Both P g' f) : Both P g f := by obtain ⟨r, a, b, c⟩ := h; exact ⟨r, a.congr e, b, c⟩
theorem Both.congrR {α : Type} {P : α → Prop} {g f f' : Nat → Option α} (e : ∀ k, f k = f' k) (h : Both P g f') : Both P g f := by obtain ⟨r, a, b, c⟩ := h; exact ⟨r, a, b.congr e, c⟩
theorem Both.posL {α : Type} {P : α → Prop} {c : Prop} [Decidable c] {A B f : Nat → Option α} (h : c) (e : Both P A f) : Both P (fun k => if c then A k else B k) f := e.congrL (fun _ => if_pos h)
theorem Both.negL {α : Type} {P : α → Prop} {c : Prop} [Decidable c] {A B f : Nat → Option α} (h : ¬ c) (e : Both P B f) : Both P (fun k => if c then A k else B k) f := e.congrL (fun _ => if_neg h)
theorem Both.posR {α : Type} {P : α → Prop} {c : Prop} [Decidable c] {A B f : Nat → Option α} (h : c) (e : Both P f A) : Both P f (fun k => if c then A k else B k) := e.congrR (fun _ => if_pos h)
theorem Both.negR {α : Type} {P : α → Prop} {c : Prop} [Decidable c] {A B f : Nat → Option α} (h : ¬ c) (e : Both P f B) : Both P f (fun k => if c then A k else B k) := e.congrR (fun _ => if_neg h)
theorem Both.ite {α : Type} {P : α → Prop} {c : Prop} [Decidable c] {A B A' B' : Nat → Option α} (h1 : c → Both P A A') (h2 : ¬ c → Both P B B') : Both P (fun k => if c then A k else B k) (fun k => if c then A' k else B' k) := by
  by_cases h : c
  · exact ((h1 h).posL h).posR h
  · exact ((h2 h).negL h).negR h
theorem Both.stepR {α : Type} {P : α → Prop} {g f f' : Nat → Option α} (e : ∀ k, f (k + 1) = f' k) (h : Both P g f') : Both P g f := by obtain ⟨r, a, b, c⟩ := h; exact ⟨r, a, b.step e, c⟩
theorem Both.bindL {α β : Type} {P : β → Prop} {g : Nat → Option α} {F : Nat → α → Option β} {f : Nat → Option β} {a : α} (h : Ev g a) (e : Both P (fun k => F k a) f) : Both P (fun k => (g k).bind (F k)) f := by obtain ⟨r, x, y, c⟩ := e; exact ⟨r, Ev.bind h x, y, c⟩
theorem Both.bindR {α β : Type} {P : β → Prop} {g : Nat → Option α} {F : Nat → α → Option β} {f : Nat → Option β} {a : α} (h : Ev g a) (e : Both P f (fun k => F k a)) : Both P f (fun k => (g k).bind (F k)) := by obtain ⟨r, x, y, c⟩ := e; exact ⟨r, x, Ev.bind h y, c⟩
theorem w1 (i : Nat) (h : i < 4611686018427387904) : wrap64 ((i : Int) + 1) = ((i + 1 : Nat) : Int) := by unfold wrap64; omega
theorem wrap_id (x : Int) (h0 : -9223372036854775808 ≤ x) (h1 : x ≤ 9223372036854775807) : wrap64 x = x := by unfold wrap64; omega
theorem rd_nat (l : List Int) (i : Nat) (h : i < l.length) : rd l (i : Int) = l[i] := by unfold rd; simp [List.getD, h]
theorem rdOf_nat {α : Type} (d : α) (l : List α) (i : Nat) (h : i < l.length) : rdOf d l (i : Int) = l[i] := by unfold rdOf; simp [List.getD, h]
theorem set_take {α : Type} (l : List α) (i : Nat) (v : α) (h : i < l.length) : (l.set i v).take (i + 1) = l.take i ++ [v] := by
  rw [List.take_succ_eq_append_getElem (by simpa using h), List.take_set_of_le (Nat.le_refl i)]; simp
theorem u64_nat (i : Nat) (h : i < 9223372036854775808) : IntKind.u64.wrap (i : Int) = (i : Int) := by
  have : IntKind.u64.wrap (i : Int) = (i : Int) % 18446744073709551616 := by simp [IntKind.wrap, IntKind.bits, IntKind.signed]
  rw [this]; omega
theorem shl_one (n : Nat) (h : n ≤ 60) : shl .i64 1 (n : Int) = ((2 ^ n : Nat) : Int) := by
  have hb : IntKind.i64.bits = 64 := rfl
  unfold shl
  rw [Int.toNat_natCast, hb, Nat.min_eq_left (by omega), Int.one_mul]
  have h1 : 2 ^ n ≤ 2 ^ 60 := Nat.pow_le_pow_right (by decide) h
  have h2 : ((2 : Int) ^ n) = ((2 ^ n : Nat) : Int) := by rw [Int.natCast_pow]; rfl
  rw [h2]; exact wrap_i64_nat _ (by omega)
def bitM (x : Int) (i : Nat) : Bool := Go.bits .and .i64 (shr .i64 x (i : Int)) 1 == 1
def modelM (n : Nat) (x : Int) : List Bool := (List.range n).map (fun i => bitM x i)
theorem modelM_len (n : Nat) (x : Int) : (modelM n x).length = n := by simp [modelM]
theorem spec_l4Model_loop (n : Nat) (hn : n ≤ 1048576) (x : Int) : ∀ (d i : Nat) (acc : List Bool), i + d = n → acc.length = n → acc.take i = (modelM n x).take i → Ev (fun k => spec_l4Model.l0 k x acc (n : Int) (i : Int)) (modelM n x)
  | 0, i, acc, hi, ha, ht => by
    refine Ev.step (fun k => spec_l4Model.l0.eq_2 ..) (Ev.neg (by omega) ?_)
    rw [List.take_of_length_le (by omega), List.take_of_length_le (by rw [modelM_len]; omega)] at ht
    rw [ht]; exact Ev.now _
  | d + 1, i, acc, hi, ha, ht => by
    refine Ev.step (fun k => spec_l4Model.l0.eq_2 ..) ?_
    rw [u64_nat i (by omega), w1 i (by omega), Int.toNat_natCast]
    refine Ev.pos (by omega) <| Ev.pos (by omega) <| Ev.pos (by omega) <| Ev.pos (by omega) ?_
    refine spec_l4Model_loop n hn x d (i + 1) _ (by omega) (by simpa using ha) ?_
    rw [set_take _ _ _ (by omega), ht, List.take_succ_eq_append_getElem (l := modelM n x) (by rw [modelM_len]; omega)]
    simp [modelM, bitM]
theorem spec_l4Model_ev (n : Nat) (hn : n ≤ 1048576) (x : Int) : Ev (fun k => spec_l4Model.f k (n : Int) x) (modelM n x) := by
  unfold spec_l4Model.f
  refine Ev.pos (by omega) <| Ev.pos (by omega) <| Ev.bindE rfl ?_
  rw [Int.toNat_natCast, List.length_replicate]
  exact spec_l4Model_loop n hn x n 0 _ (by omega) (by simp) (by simp)
def GoodK (v m : Int) : Bool := In v 0 65535 && In m 0 65535 && (Go.bits .and .i64 v m == 0)
def GoodS (lo hi : Int) : Bool := In lo 0 65535 && In hi 0 65535 && decide (lo ≤ hi)
def JoinK (a b c d : Int) : Int × Int := (Go.bits .andNot .i64 a (Go.bits .or .i64 (Go.bits .or .i64 b d) (Go.bits .xor .i64 a c)), Go.bits .or .i64 (Go.bits .or .i64 b d) (Go.bits .xor .i64 a c))
def JoinS (a b c d : Int) : Int × Int := (mn a c, mx b d)
def MeetS (a b c d : Int) : Int × Int × Bool := if mx a c > mn b d then (0, 0, false) else (mx a c, mn b d, true)
def LessS (a b c d : Int) : Int × Int × Int × Int × Bool := if a ≥ d then (0, 0, 0, 0, false) else (a, mn b (wrap64 (d - 1)), mx c (wrap64 (a + 1)), d, true)
theorem Nodeb_nat (l : List S75) (i : Nat) (h : i < l.length) : rd_T75 l (i : Int) = l[i] := by unfold rd_T75; simp [List.getD, h]
def deposit (m : Nat) : Nat → Nat → Nat → Nat → Nat
  | 0, _, _, out => out
  | d + 1, j, n, out => if m.testBit j = true then deposit m d (j + 1) (n / 2) (out + n % 2 * 2 ^ j) else deposit m d (j + 1) n out
theorem wrap_i64 (y : Int) : IntKind.i64.wrap y = wrap64 y := by
  rw [IntKind.wrap_i64]; unfold wrap64; omega
def EndsM (x y : Int) : Int × Int := if x / 65536 = y / 65536 then (x % 65536, y % 65536) else (0, 65535)
def mayN (v m x : Nat) : Nat := if x = 1 then v ||| m else andn 65535 v
def allIn (lo hi : Int) (l : List Int) : Bool := l.all fun x => In x lo hi
def tr : List Bool → Nat → List Int
  | [], _ => []
  | b :: v, s => if b = true then (s : Int) :: tr v (s + 1) else tr v (s + 1)
def putP : List Int → Int → List Int
  | [], x => [x]
  | a :: l, x => if a < x then a :: putP l x else if a = x then a :: l else x :: a :: l
def trp (f : Nat → Bool) : List Bool → Nat → List Int
  | [], _ => []
  | b :: v, s => if (b && f s) = true then (s : Int) :: trp f v (s + 1) else trp f v (s + 1)
def halves : List Bool → List Bool × List Bool
  | [] => ([], [])
  | x :: t => (x :: (halves t).2, (halves t).1)
theorem halves_len : ∀ t : List Bool, (halves t).1.length + (halves t).2.length = t.length ∧ (halves t).2.length ≤ (halves t).1.length ∧ (halves t).1.length ≤ (halves t).2.length + 1
  | [] => by simp [halves]
  | x :: t => by have := halves_len t; simp only [halves, List.length_cons]; omega
theorem l7Half_loop (t : List Bool) (hl : t.length ≤ 1048576) : ∀ (d i : Nat) (acc : List Bool), t.length ≤ i + d → acc.length ≤ i → i ≤ t.length + 1 → Ev (fun k => spec_l7Half.l0 k t acc (i : Int)) (acc ++ (halves (t.drop i)).1)
  | 0, i, acc, h, ha, hi => by
    rw [List.drop_eq_nil_of_le (by omega)]
    exact Ev.step (fun k => spec_l7Half.l0.eq_2 ..) (Ev.neg (by omega) (Ev.at_ (Ev.now _) (by simp [halves])))
  | d + 1, i, acc, h, ha, hi => by
    by_cases hlt : i < t.length
    · refine Ev.step (fun k => spec_l7Half.l0.eq_2 ..) (Ev.pos (by omega) (Ev.pos (by omega) (Ev.pos (by omega) ?_)))
      rw [rdOf_nat false t i hlt, show wrap64 ((i : Int) + 2) = ((i + 2 : Nat) : Int) by unfold wrap64; omega]
      refine Ev.at_ (l7Half_loop t hl d (i + 2) (acc ++ [t[i]]) (by omega) (by simp; omega) (by omega)) ?_
      rw [List.drop_eq_getElem_cons hlt]
      by_cases h2 : i + 1 < t.length
      · rw [List.drop_eq_getElem_cons h2]; simp [halves]
      · rw [List.drop_eq_nil_of_le (show t.length ≤ i + 1 by omega), List.drop_eq_nil_of_le (show t.length ≤ i + 2 by omega)]; simp [halves]
    · rw [List.drop_eq_nil_of_le (by omega)]
      exact Ev.step (fun k => spec_l7Half.l0.eq_2 ..) (Ev.neg (by omega) (Ev.at_ (Ev.now _) (by simp [halves])))
theorem l7Half0_ev (t : List Bool) (hl : t.length ≤ 1048576) : Ev (fun k => spec_l7Half.f k t 0) (halves t).1 := by
  have h := l7Half_loop t hl t.length 0 [] (by omega) (by simp) (by omega)
  rw [List.drop_zero, List.nil_append] at h
  exact h
theorem l7Half1_ev (t : List Bool) (hl : t.length ≤ 1048576) : Ev (fun k => spec_l7Half.f k t 1) (halves t).2 := by
  have h := l7Half_loop t hl t.length 1 [] (by omega) (by simp) (by omega)
  rw [List.nil_append] at h
  have e : (halves (t.drop 1)).1 = (halves t).2 := by cases t with
    | nil => rfl
    | cons x t => rfl
  rw [e] at h
  exact h
theorem splits_loop (t : List Bool) (hl : t.length ≤ 1048576) : ∀ (d i : Nat) (lo hi : List Bool), i + d = t.length → lo.length ≤ i → hi.length ≤ i → Ev (fun k => impl_Diagram_build.l0 k t lo hi (i : Int)) (if i % 2 = 0 then (lo ++ (halves (t.drop i)).1, hi ++ (halves (t.drop i)).2) else (lo ++ (halves (t.drop i)).2, hi ++ (halves (t.drop i)).1))
  | 0, i, lo, hi, h, h1, h2 => by
    rw [List.drop_eq_nil_of_le (by omega)]
    exact Ev.step (fun k => impl_Diagram_build.l0.eq_2 ..) (Ev.neg (by omega) (Ev.at_ (Ev.now _) (by split <;> simp [halves])))
  | d + 1, i, lo, hi, h, h1, h2 => by
    refine Ev.step (fun k => impl_Diagram_build.l0.eq_2 ..) (Ev.pos (by omega) (Ev.pos (by omega) ?_))
    rw [rdOf_nat false t i (by omega), w1 i (by omega), List.drop_eq_getElem_cons (show i < t.length by omega)]
    by_cases hp : i % 2 = 0
    · rw [if_pos hp]
      refine Ev.pos (by omega) (Ev.pos (by omega) (Ev.at_ (splits_loop t hl d (i + 1) (lo ++ [t[i]]) hi (by omega) (by simp; omega) (by omega)) ?_))
      rw [if_neg (by omega)]; simp [halves]
    · rw [if_neg hp]
      refine Ev.neg (by omega) (Ev.pos (by omega) (Ev.at_ (splits_loop t hl d (i + 1) lo (hi ++ [t[i]]) (by omega) (by omega) (by simp; omega)) ?_))
      rw [if_pos (by omega)]; simp [halves]
theorem splits_ev (t : List Bool) (hl : t.length ≤ 1048576) : Ev (fun k => impl_Diagram_build.l0 k t [] [] 0) (halves t) := by
  have h := splits_loop t hl t.length 0 [] [] (by omega) (by simp) (by simp)
  rw [List.drop_zero, if_pos rfl] at h
  exact h
theorem spec_l7SameTable_loop (a b : List Bool) (h : a.length = b.length) (hl : a.length ≤ 1048576) : ∀ (d i : Nat), i + d = a.length → Ev (fun k => spec_l7SameTable.l0 k a b (a.length : Int) (i : Int)) (decide (a.drop i = b.drop i))
  | 0, i, hi => by
    rw [List.drop_eq_nil_of_le (by omega), List.drop_eq_nil_of_le (by omega)]
    exact Ev.step (fun k => spec_l7SameTable.l0.eq_2 ..) (Ev.neg (by omega) (Ev.at_ (Ev.now _) (by simp)))
  | d + 1, i, hi => by
    refine Ev.step (fun k => spec_l7SameTable.l0.eq_2 ..) (Ev.pos (by omega) (Ev.pos (by omega) (Ev.pos (by omega) (Ev.pos (by omega) ?_))))
    rw [rdOf_nat false a i (by omega), rdOf_nat false b i (by omega), w1 i (by omega), List.drop_eq_getElem_cons (show i < a.length by omega), List.drop_eq_getElem_cons (show i < b.length by omega)]
    by_cases hx : a[i] = b[i]
    · refine Ev.neg (by simp [hx]) (Ev.at_ (spec_l7SameTable_loop a b h hl d (i + 1) (by omega)) ?_)
      simp only [hx, List.cons.injEq, true_and]
    · refine Ev.pos (by simpa using hx) (Ev.at_ (Ev.now _) ?_)
      simp only [List.cons.injEq, hx, false_and, decide_false]
theorem slices_Equal_bool_bool_loop (a b : List Bool) (h : a.length = b.length) (hl : a.length ≤ 1048576) : ∀ (d i : Nat), i + d = a.length → Ev (fun k => slices_Equal_bool_bool.l0 k a b (a.length : Int) (i : Int)) (decide (a.drop i = b.drop i))
  | 0, i, hi => by
    rw [List.drop_eq_nil_of_le (by omega), List.drop_eq_nil_of_le (by omega)]
    exact Ev.step (fun k => slices_Equal_bool_bool.l0.eq_2 ..) (Ev.neg (by omega) (Ev.at_ (Ev.now _) (by simp)))
  | d + 1, i, hi => by
    refine Ev.step (fun k => slices_Equal_bool_bool.l0.eq_2 ..) (Ev.pos (by omega) (Ev.pos (by omega) (Ev.pos (by omega) (Ev.pos (by omega) ?_))))
    rw [rdOf_nat false a i (by omega), rdOf_nat false b i (by omega), w1 i (by omega), List.drop_eq_getElem_cons (show i < a.length by omega), List.drop_eq_getElem_cons (show i < b.length by omega)]
    by_cases hx : a[i] = b[i]
    · refine Ev.neg (by simp [hx]) (Ev.at_ (slices_Equal_bool_bool_loop a b h hl d (i + 1) (by omega)) ?_)
      simp only [hx, List.cons.injEq, true_and]
    · refine Ev.pos (by simpa using hx) (Ev.at_ (Ev.now _) ?_)
      simp only [List.cons.injEq, hx, false_and, decide_false]
theorem sameTable_ev (a b : List Bool) (h : a.length = b.length) (hl : a.length ≤ 1048576) : Ev (fun k => spec_l7SameTable.f k a b) (decide (a = b)) := by
  have := spec_l7SameTable_loop a b h hl a.length 0 (by omega)
  rw [List.drop_zero, List.drop_zero] at this
  exact this
theorem equalB_ev (a b : List Bool) (hl : a.length ≤ 1048576) : Ev (fun k => slices_Equal_bool_bool.f k a b) (decide (a = b)) := by
  unfold slices_Equal_bool_bool.f
  by_cases h : a.length = b.length
  · have := slices_Equal_bool_bool_loop a b h hl a.length 0 (by omega)
    rw [List.drop_zero, List.drop_zero] at this
    exact Ev.pos (by omega) this
  · refine Ev.neg (by omega) (Ev.at_ (Ev.now _) ?_)
    exact (decide_eq_false (fun e => h (by rw [e]))).symm
def eqN (x n : S75) : Bool := x.f0 == n.f0 && (x.f1 == n.f1 && x.f2 == n.f2)
theorem eqN_iff (x n : S75) : eqN x n = true ↔ x = n := by
  cases x; cases n; simp [eqN]
theorem eqN_comm (x n : S75) : eqN x n = eqN n x := by
  rw [Bool.eq_iff_iff, eqN_iff, eqN_iff]; exact ⟨fun h => h.symm, fun h => h.symm⟩
def eqL : List S75 → List S75 → Bool
  | [], [] => true
  | x :: s, y :: t => eqN x y && eqL s t
  | _, _ => false
theorem eqL_iff : ∀ s t : List S75, eqL s t = true ↔ s = t
  | [], [] => by simp [eqL]
  | [], y :: t => by simp [eqL]
  | x :: s, [] => by simp [eqL]
  | x :: s, y :: t => by simp [eqL, eqN_iff, eqL_iff s t]
theorem eqL_len {s t : List S75} (h : s.length ≠ t.length) : eqL s t = false := by
  rw [Bool.eq_false_iff]; intro e; rw [eqL_iff] at e; exact h (by rw [e])
def findP : List S75 → S75 → Int → Int
  | [], _, _ => -1
  | x :: t, n, i => if eqN x n = true then i else findP t n (i + 1)
theorem findP_bd : ∀ (t : List S75) (n : S75) (i : Int), 0 ≤ i → findP t n i = -1 ∨ (i ≤ findP t n i ∧ findP t n i < i + t.length)
  | [], _, _, _ => .inl rfl
  | x :: t, n, i, h => by
    unfold findP
    split
    · right; simp; omega
    · rcases findP_bd t n (i + 1) (by omega) with h1 | h1
      · exact .inl h1
      · right; simp only [List.length_cons]; omega
def bld : Nat → Int → List Bool → List S75 → Int × List S75
  | 0, _, t, q => (if rdOf false t 0 = true then 1 else 0, q)
  | n + 1, v, t, q => if (halves t).1 = (halves t).2 then bld n (v + 1) (halves t).1 q else
      (if findP (bld n (v + 1) (halves t).2 (bld n (v + 1) (halves t).1 q).2).2 ⟨v, (bld n (v + 1) (halves t).1 q).1, (bld n (v + 1) (halves t).2 (bld n (v + 1) (halves t).1 q).2).1⟩ 0 < 0
       then (((bld n (v + 1) (halves t).2 (bld n (v + 1) (halves t).1 q).2).2.length : Int) + 2, (bld n (v + 1) (halves t).2 (bld n (v + 1) (halves t).1 q).2).2 ++ [⟨v, (bld n (v + 1) (halves t).1 q).1, (bld n (v + 1) (halves t).2 (bld n (v + 1) (halves t).1 q).2).1⟩])
       else (findP (bld n (v + 1) (halves t).2 (bld n (v + 1) (halves t).1 q).2).2 ⟨v, (bld n (v + 1) (halves t).1 q).1, (bld n (v + 1) (halves t).2 (bld n (v + 1) (halves t).1 q).2).1⟩ 0 + 2, (bld n (v + 1) (halves t).2 (bld n (v + 1) (halves t).1 q).2).2))
theorem bld_len : ∀ (n : Nat) (v : Int) (t : List Bool) (q : List S75), (bld n v t q).2.length + 1 ≤ q.length + 2 ^ n
  | 0, v, t, q => by simp [bld]
  | n + 1, v, t, q => by
    have h1 := bld_len n (v + 1) (halves t).1 q
    have h2 := bld_len n (v + 1) (halves t).2 (bld n (v + 1) (halves t).1 q).2
    have e : 2 ^ (n + 1) = 2 ^ n + 2 ^ n := by rw [Nat.pow_succ]; omega
    rw [e]
    generalize 2 ^ n = P at h1 h2 ⊢
    unfold bld
    split
    · omega
    · split
      · simp only [List.length_append, List.length_cons, List.length_nil]; omega
      · simp only; omega
theorem halves_pow (t : List Bool) (n : Nat) (h : t.length = 2 ^ (n + 1)) : (halves t).1.length = 2 ^ n ∧ (halves t).2.length = 2 ^ n := by
  have := halves_len t
  have e : 2 ^ (n + 1) = 2 ^ n + 2 ^ n := by rw [Nat.pow_succ]; omega
  rw [e] at h
  generalize 2 ^ n = P at h ⊢
  omega
theorem indexN_loop (q : List S75) (hl : q.length ≤ 1048576) (n : S75) : ∀ (d i : Nat), i + d = q.length → Ev (fun k => impl_Node_110.l0 k q (q.length : Int) (i : Int) n.f0 n.f1 n.f2) (findP (q.drop i) n (i : Int))
  | 0, i, h => by
    rw [List.drop_eq_nil_of_le (by omega)]
    exact Ev.step (fun k => impl_Node_110.l0.eq_2 ..) (Ev.neg (by omega) (Ev.now _))
  | d + 1, i, h => by
    refine Ev.step (fun k => impl_Node_110.l0.eq_2 ..) (Ev.pos (by omega) (Ev.pos (by omega) (Ev.pos (by omega) ?_)))
    rw [Nodeb_nat q i (by omega), w1 i (by omega), List.drop_eq_getElem_cons (show i < q.length by omega)]
    have e : (n.f0 == q[i].f0 && (n.f1 == q[i].f1 && n.f2 == q[i].f2)) = eqN q[i] n := eqN_comm n q[i]
    rw [e]
    unfold findP
    by_cases hx : eqN q[i] n = true
    · rw [if_pos hx]; exact Ev.pos hx (Ev.now _)
    · rw [if_neg hx]
      exact Ev.neg hx (indexN_loop q hl n d (i + 1) (by omega))
theorem indexN_ev (q : List S75) (hl : q.length ≤ 1048576) (v a b : Int) : Ev (fun k => impl_Node_110.f k q v a b) (findP q ⟨v, a, b⟩ 0) := by
  have h := indexN_loop q hl ⟨v, a, b⟩ q.length 0 (by omega)
  rw [List.drop_zero] at h
  exact h
theorem lp_loop (q : List S75) (hl : q.length ≤ 1048576) (n : S75) : ∀ (d i : Nat), i + d = q.length → Ev (fun k => spec_l7B_build.lp k q n.f0 n.f1 n.f2 (i : Int)) (if findP (q.drop i) n (i : Int) < 0 then -1 else findP (q.drop i) n (i : Int) + 2)
  | 0, i, h => by
    rw [List.drop_eq_nil_of_le (by omega)]
    exact Ev.step (fun k => spec_l7B_build.lp.eq_2 ..) (Ev.neg (by omega) (Ev.now _))
  | d + 1, i, h => by
    refine Ev.step (fun k => spec_l7B_build.lp.eq_2 ..) (Ev.pos (by omega) (Ev.pos (by omega) ?_))
    rw [Nodeb_nat q i (by omega), w1 i (by omega), List.drop_eq_getElem_cons (show i < q.length by omega)]
    unfold findP
    by_cases hx : eqN q[i] n = true
    · rw [if_pos hx, if_neg (by omega)]; exact Ev.pos hx (Ev.now _)
    · rw [if_neg hx]
      exact Ev.neg hx (lp_loop q hl n d (i + 1) (by omega))
theorem lp_ev (q : List S75) (hl : q.length ≤ 1048576) (v a b : Int) : Ev (fun k => spec_l7B_build.lp k q v a b 0) (if findP q ⟨v, a, b⟩ 0 < 0 then -1 else findP q ⟨v, a, b⟩ 0 + 2) := by
  have h := lp_loop q hl ⟨v, a, b⟩ q.length 0 (by omega)
  rw [List.drop_zero] at h
  exact h
theorem build_ev : ∀ (n : Nat) (v : Int) (t : List Bool) (q : List S75), t.length = 2 ^ n → 2 ^ n ≤ 1024 → 0 ≤ v → v + n ≤ 1000 → q.length + 2 ^ n ≤ 65536 → Ev (fun k => impl_Diagram_build.f k v t q) (bld n v t q)
  | 0, v, t, q, ht, hp, hv, hn, hq => by
    refine Ev.step (fun k => impl_Diagram_build.f.eq_2 ..) (Ev.pos (by rw [ht]; rfl) (Ev.now _))
  | n + 1, v, t, q, ht, hp, hv, hn, hq => by
    have hh := halves_pow t n ht
    have e : 2 ^ (n + 1) = 2 ^ n + 2 ^ n := by rw [Nat.pow_succ]; omega
    have hP : 0 < 2 ^ n := Nat.pow_pos (by decide)
    rw [e] at ht hp hq
    have b1 := bld_len n (v + 1) (halves t).1 q
    have b2 := bld_len n (v + 1) (halves t).2 (bld n (v + 1) (halves t).1 q).2
    have i1 := build_ev n (v + 1) (halves t).1 q hh.1 (by omega) (by omega) (by omega) (by omega)
    have i2 := build_ev n (v + 1) (halves t).2 (bld n (v + 1) (halves t).1 q).2 hh.2 (by omega) (by omega) (by omega) (by omega)
    generalize 2 ^ n = P at *
    refine Ev.step (fun k => impl_Diagram_build.f.eq_2 ..) (Ev.neg (by omega) (Ev.bind (splits_ev t (by omega)) (Ev.bind (equalB_ev _ _ (by omega)) ?_)))
    rw [wrap_id (v + 1) (by omega) (by omega)]
    unfold bld
    by_cases hx : (halves t).1 = (halves t).2
    · rw [if_pos hx]; exact Ev.pos (decide_eq_true hx) i1
    · rw [if_neg hx]
      refine Ev.neg (by simpa using hx) (Ev.bind i1 (Ev.bind i2 (Ev.bind (indexN_ev _ (by omega) _ _ _) ?_)))
      generalize bld n (v + 1) (halves t).1 q = x at *
      generalize bld n (v + 1) (halves t).2 x.2 = y at *
      rcases findP_bd y.2 ⟨v, x.1, y.1⟩ 0 (by omega) with h | h
      · have hc : findP y.2 ⟨v, x.1, y.1⟩ 0 < 0 := by omega
        simp only [if_pos hc]
        refine Ev.pos (by omega) (Ev.at_ (Ev.now _) ?_)
        rw [wrap_id _ (by omega) (by omega)]
      · have hc : ¬ findP y.2 ⟨v, x.1, y.1⟩ 0 < 0 := by omega
        simp only [if_neg hc]
        refine Ev.at_ (Ev.now _) ?_
        rw [wrap_id _ (by omega) (by omega)]
theorem buildS_ev : ∀ (n : Nat) (v : Int) (t : List Bool) (q : List S75), t.length = 2 ^ n → 2 ^ n ≤ 1024 → 0 ≤ v → v + n ≤ 1000 → q.length + 2 ^ n ≤ 65536 → Ev (fun k => spec_l7B_build.f k v t q) (bld n v t q)
  | 0, v, t, q, ht, hp, hv, hn, hq => by
    refine Ev.step (fun k => spec_l7B_build.f.eq_2 ..) (Ev.pos (by rw [ht]; rfl) (Ev.now _))
  | n + 1, v, t, q, ht, hp, hv, hn, hq => by
    have hh := halves_pow t n ht
    have e : 2 ^ (n + 1) = 2 ^ n + 2 ^ n := by rw [Nat.pow_succ]; omega
    have hP : 0 < 2 ^ n := Nat.pow_pos (by decide)
    rw [e] at ht hp hq
    have b1 := bld_len n (v + 1) (halves t).1 q
    have b2 := bld_len n (v + 1) (halves t).2 (bld n (v + 1) (halves t).1 q).2
    have i1 := buildS_ev n (v + 1) (halves t).1 q hh.1 (by omega) (by omega) (by omega) (by omega)
    have i2 := buildS_ev n (v + 1) (halves t).2 (bld n (v + 1) (halves t).1 q).2 hh.2 (by omega) (by omega) (by omega) (by omega)
    generalize 2 ^ n = P at *
    refine Ev.step (fun k => spec_l7B_build.f.eq_2 ..) (Ev.neg (by omega) (Ev.bind (l7Half0_ev t (by omega)) (Ev.bind (l7Half1_ev t (by omega)) (Ev.bind (sameTable_ev _ _ (by omega) (by omega)) ?_))))
    rw [wrap_id (v + 1) (by omega) (by omega)]
    unfold bld
    by_cases hx : (halves t).1 = (halves t).2
    · rw [if_pos hx]; exact Ev.pos (decide_eq_true hx) i1
    · rw [if_neg hx]
      refine Ev.neg (by simpa using hx) (Ev.bind i1 (Ev.bind i2 (Ev.pos (by omega) (Ev.bind (lp_ev _ (by omega) _ _ _) ?_))))
      generalize bld n (v + 1) (halves t).1 q = x at *
      generalize bld n (v + 1) (halves t).2 x.2 = y at *
      rcases findP_bd y.2 ⟨v, x.1, y.1⟩ 0 (by omega) with h | h
      · rw [if_pos (show findP y.2 ⟨v, x.1, y.1⟩ 0 < 0 by omega), if_pos (show findP y.2 ⟨v, x.1, y.1⟩ 0 < 0 by omega)]
        exact Ev.pos (by omega) (Ev.now _)
      · rw [if_neg (show ¬ findP y.2 ⟨v, x.1, y.1⟩ 0 < 0 by omega), if_neg (show ¬ findP y.2 ⟨v, x.1, y.1⟩ 0 < 0 by omega)]
        exact Ev.neg (by omega) (Ev.now _)
def evP (q : List S75) (β : Int → Bool) : Nat → Int → Bool
  | 0, p => p == 1
  | m + 1, p => if p > 1 then evP q β m (if β ((rd_T75 q (p - 2)).f0 - 1) = true then (rd_T75 q (p - 2)).f2 else (rd_T75 q (p - 2)).f1) else p == 1
def nodeB (a : Int) (q : List S75) (i : Nat) : Bool := In (rd_T75 q (i : Int)).f0 1 a && In (rd_T75 q (i : Int)).f1 0 ((i : Int) + 1) && In (rd_T75 q (i : Int)).f2 0 ((i : Int) + 1)
def nodesFrom (a : Int) (q : List S75) : Nat → Nat → Bool
  | 0, _ => true
  | d + 1, i => nodeB a q i && nodesFrom a q d (i + 1)
theorem nodesFrom_at (a : Int) (q : List S75) : ∀ (d i j : Nat), nodesFrom a q d i = true → i ≤ j → j < i + d → nodeB a q j = true
  | 0, i, j, h, h1, h2 => by omega
  | d + 1, i, j, h, h1, h2 => by
    unfold nodesFrom at h
    rw [Bool.and_eq_true] at h
    by_cases e : j = i
    · rw [e]; exact h.1
    · exact nodesFrom_at a q d (i + 1) j h.2 (by omega) (by omega)
def bitB (n : Nat) (j : Int) : Bool := bitM (n : Int) j.toNat
def tblP (v : Nat) (q : List S75) (c : Int) : List Bool := (List.range (2 ^ v)).map (fun k => evP q (bitB k) 64 c)
theorem tblP_len (v : Nat) (q : List S75) (c : Int) : (tblP v q c).length = 2 ^ v := by simp [tblP]
theorem l7Eval_loop (v : Nat) (q : List S75) (hq : q.length ≤ 64) (hv : v ≤ 6) (ok : ∀ i, i < q.length → nodeB (v : Int) q i = true) (a c : Int) (mo : List Bool) (hm : mo.length = v) (β : Int → Bool) (hβ : ∀ j : Nat, j < v → rdOf false mo (j : Int) = β (j : Int)) : ∀ (m : Nat) (p : Int), 0 ≤ p → p ≤ (m : Int) + 1 → p ≤ (q.length : Int) + 1 → Ev (fun k => spec_l7Eval.l0 k mo p a q c) (evP q β m p)
  | 0, p, h0, h1, h2 => Ev.step (fun k => spec_l7Eval.l0.eq_2 ..) (Ev.neg (by omega) (Ev.now _))
  | m + 1, p, h0, h1, h2 => by
    refine Ev.step (fun k => spec_l7Eval.l0.eq_2 ..) ?_
    unfold evP
    by_cases hp : p > 1
    · obtain ⟨i, hi⟩ := Int.eq_ofNat_of_zero_le (show 0 ≤ p - 2 by omega)
      have hg := ok i (by omega)
      unfold nodeB at hg
      simp only [Bool.and_eq_true, In_true] at hg
      rw [if_pos hp, wrap_id (p - 2) (by omega) (by omega), hi]
      obtain ⟨j, hj⟩ := Int.eq_ofNat_of_zero_le (show 0 ≤ (rd_T75 q (i : Int)).f0 - 1 by omega)
      rw [wrap_id _ (by omega) (by omega), hj]
      refine Ev.pos hp (Ev.pos (by omega) (Ev.pos (by omega) (Ev.pos (by omega) (Ev.pos (by omega) ?_))))
      rw [hβ j (by omega)]
      by_cases hb : β (j : Int) = true
      · rw [if_pos hb]; exact Ev.pos hb (l7Eval_loop v q hq hv ok a c mo hm β hβ m _ (by omega) (by omega) (by omega))
      · rw [if_neg hb]; exact Ev.neg hb (l7Eval_loop v q hq hv ok a c mo hm β hβ m _ (by omega) (by omega) (by omega))
    · rw [if_neg hp]; exact Ev.neg hp (Ev.now _)
theorem l7Eval_ev (v : Nat) (q : List S75) (hq : q.length ≤ 64) (hv : v ≤ 6) (ok : ∀ i, i < q.length → nodeB (v : Int) q i = true) (a c : Int) (mo : List Bool) (hm : mo.length = v) (β : Int → Bool) (hβ : ∀ j : Nat, j < v → rdOf false mo (j : Int) = β (j : Int)) (h0 : 0 ≤ c) (h2 : c ≤ (q.length : Int) + 1) : Ev (fun k => spec_l7Eval.f k a q c mo) (evP q β 64 c) :=
  l7Eval_loop v q hq hv ok a c mo hm β hβ 64 c h0 (by omega) h2
theorem value_loop (v : Nat) (q : List S75) (hq : q.length ≤ 64) (hv : v ≤ 6) (ok : ∀ i, i < q.length → nodeB (v : Int) q i = true) (a c : Int) (n : Nat) : ∀ (m : Nat) (p : Int), 0 ≤ p → p ≤ (m : Int) + 1 → p ≤ (q.length : Int) + 1 → Ev (fun k => impl_Diagram_value.l0 k (n : Int) p a q c) (evP q (bitB n) m p)
  | 0, p, h0, h1, h2 => Ev.step (fun k => impl_Diagram_value.l0.eq_2 ..) (Ev.neg (by omega) (Ev.now _))
  | m + 1, p, h0, h1, h2 => by
    refine Ev.step (fun k => impl_Diagram_value.l0.eq_2 ..) ?_
    unfold evP
    by_cases hp : p > 1
    · obtain ⟨i, hi⟩ := Int.eq_ofNat_of_zero_le (show 0 ≤ p - 2 by omega)
      have hg := ok i (by omega)
      unfold nodeB at hg
      simp only [Bool.and_eq_true, In_true] at hg
      rw [if_pos hp, wrap_id (p - 2) (by omega) (by omega), hi]
      obtain ⟨j, hj⟩ := Int.eq_ofNat_of_zero_le (show 0 ≤ (rd_T75 q (i : Int)).f0 - 1 by omega)
      rw [wrap_id _ (by omega) (by omega), hj]
      refine Ev.pos hp (Ev.pos (by omega) (Ev.pos (by omega) (Ev.pos (by omega) ?_)))
      have e : bitB n (j : Int) = (Go.bits .and .i64 (shr .i64 (n : Int) (j : Int)) 1 == 1) := by unfold bitB bitM; rw [Int.toNat_natCast]
      by_cases hb : bitB n (j : Int) = true
      · rw [if_pos hb]; rw [e] at hb
        exact Ev.pos (by simpa using hb) (value_loop v q hq hv ok a c n m _ (by omega) (by omega) (by omega))
      · rw [if_neg hb]; rw [e] at hb
        exact Ev.neg (by simpa using hb) (value_loop v q hq hv ok a c n m _ (by omega) (by omega) (by omega))
    · rw [if_neg hp]; exact Ev.neg hp (Ev.now _)
theorem value_ev (v : Nat) (q : List S75) (hq : q.length ≤ 64) (hv : v ≤ 6) (ok : ∀ i, i < q.length → nodeB (v : Int) q i = true) (a c : Int) (n : Nat) (h0 : 0 ≤ c) (h2 : c ≤ (q.length : Int) + 1) : Ev (fun k => impl_Diagram_value.f k a q c (n : Int)) (evP q (bitB n) 64 c) :=
  value_loop v q hq hv ok a c n 64 c h0 (by omega) h2
theorem pow6 (v : Nat) (hv : v ≤ 6) : 2 ^ v ≤ 64 := Nat.le_trans (Nat.pow_le_pow_right (by decide) hv) (by decide)
theorem table_loop (v : Nat) (q : List S75) (hq : q.length ≤ 64) (hv : v ≤ 6) (ok : ∀ i, i < q.length → nodeB (v : Int) q i = true) (c : Int) (h0 : 0 ≤ c) (h2 : c ≤ (q.length : Int) + 1) (N : Nat) (hN : N ≤ 64) : ∀ (d i : Nat) (acc : List Bool), i + d = N → acc.length ≤ i → Ev (fun k => impl_Diagram_table.l0 k acc (N : Int) (i : Int) (v : Int) q c) (acc ++ (List.range' i d).map (fun k => evP q (bitB k) 64 c))
  | 0, i, acc, h, ha => Ev.step (fun k => impl_Diagram_table.l0.eq_2 ..) (Ev.neg (by omega) (Ev.at_ (Ev.now _) (by simp)))
  | d + 1, i, acc, h, ha => by
    refine Ev.step (fun k => impl_Diagram_table.l0.eq_2 ..) (Ev.pos (by omega) (Ev.bind (value_ev v q hq hv ok (v : Int) c i h0 h2) (Ev.pos (by omega) ?_)))
    rw [w1 i (by omega)]
    refine Ev.at_ (table_loop v q hq hv ok c h0 h2 N hN d (i + 1) _ (by omega) (by simp; omega)) ?_
    simp [List.range'_succ]
theorem table_ev (v : Nat) (q : List S75) (hq : q.length ≤ 64) (hv : v ≤ 6) (ok : ∀ i, i < q.length → nodeB (v : Int) q i = true) (c : Int) (h0 : 0 ≤ c) (h2 : c ≤ (q.length : Int) + 1) : Ev (fun k => impl_Diagram_table.f k (v : Int) q c) (tblP v q c) := by
  unfold impl_Diagram_table.f
  refine Ev.pos (by omega) ?_
  rw [shl_one v (by omega)]
  refine Ev.at_ (table_loop v q hq hv ok c h0 h2 (2 ^ v) (pow6 v hv) (2 ^ v) 0 [] (by omega) (by simp)) ?_
  rw [List.nil_append, ← List.range_eq_range']; rfl
theorem rd_model (v n j : Nat) (h : j < v) : rdOf false (modelM v (n : Int)) (j : Int) = bitB n (j : Int) := by
  rw [rdOf_nat false _ j (by rw [modelM_len]; exact h)]
  simp [modelM, bitB]
theorem l7Table_loop1 (v : Nat) (q : List S75) (hq : q.length ≤ 64) (hv : v ≤ 6) (ok : ∀ i, i < q.length → nodeB (v : Int) q i = true) (c : Int) (h0 : 0 ≤ c) (h2 : c ≤ (q.length : Int) + 1) : ∀ (d i : Nat) (acc : List Bool), i + d = 2 ^ v → acc.length ≤ i → Ev (fun k => spec_l7Table.l1 k acc (i : Int) (v : Int) q c) (acc ++ (List.range' i d).map (fun k => evP q (bitB k) 64 c), true)
  | 0, i, acc, h, ha => by
    refine Ev.step (fun k => spec_l7Table.l1.eq_2 ..) ?_
    rw [u64_nat v (by omega), shl_one v (by omega)]
    exact Ev.pos (by omega) (Ev.neg (by omega) (Ev.at_ (Ev.now _) (by simp)))
  | d + 1, i, acc, h, ha => by
    have := pow6 v hv
    refine Ev.step (fun k => spec_l7Table.l1.eq_2 ..) ?_
    rw [u64_nat v (by omega), shl_one v (by omega)]
    refine Ev.pos (by omega) (Ev.pos (by omega) (Ev.bind (spec_l4Model_ev v (by omega) (i : Int)) (Ev.bind (l7Eval_ev v q hq hv ok (v : Int) c _ (modelM_len v _) (bitB i) (fun j hj => rd_model v i j hj) h0 h2) (Ev.pos (by omega) ?_))))
    rw [w1 i (by omega)]
    refine Ev.at_ (l7Table_loop1 v q hq hv ok c h0 h2 d (i + 1) _ (by omega) (by simp; omega)) ?_
    simp [List.range'_succ]
theorem l7Table_loop0 (v : Nat) (q : List S75) (hq : q.length ≤ 64) (hv : v ≤ 6) (c : Int) : ∀ (d i : Nat) (R : List Bool × Bool), i + d = q.length → (nodesFrom (v : Int) q d i = true → Ev (fun k => spec_l7Table.l1 k ([] : List Bool) 0 (v : Int) q c) R) → Ev (fun k => spec_l7Table.l0 k q (q.length : Int) (i : Int) (v : Int) q c) (if nodesFrom (v : Int) q d i = true then R else ([], false))
  | 0, i, R, h, hR => by
    rw [if_pos (show nodesFrom (v : Int) q 0 i = true from rfl)]
    exact Ev.step (fun k => spec_l7Table.l0.eq_2 ..) (Ev.neg (by omega) (hR rfl))
  | d + 1, i, R, h, hR => by
    refine Ev.step (fun k => spec_l7Table.l0.eq_2 ..) (Ev.pos (by omega) (Ev.pos (by omega) (Ev.pos (by omega) (Ev.bindE (spec_l1In_eq ..) ?_))))
    rw [w1 i (by omega), show ((i + 1 : Nat) : Int) = (i : Int) + 1 by omega]
    unfold nodesFrom at hR ⊢
    have ih := l7Table_loop0 v q hq hv c d (i + 1)
    by_cases g0 : In (rd_T75 q (i : Int)).f0 1 (v : Int) = true
    · refine Ev.pos g0 (Ev.bindE (spec_l1In_eq ..) ?_)
      by_cases g1 : In (rd_T75 q (i : Int)).f1 0 ((i : Int) + 1) = true
      · refine Ev.pos g1 (Ev.bindE (spec_l1In_eq ..) ?_)
        by_cases g2 : In (rd_T75 q (i : Int)).f2 0 ((i : Int) + 1) = true
        · have e : nodeB (v : Int) q i = true := by unfold nodeB; rw [g0, g1, g2]; rfl
          rw [e, Bool.true_and] at hR ⊢
          exact Ev.pos g2 (ih R (by omega) hR)
        · rw [if_neg (by unfold nodeB; rw [Bool.eq_false_iff.mpr g2]; simp)]; exact Ev.neg g2 (Ev.now _)
      · rw [if_neg (by unfold nodeB; rw [Bool.eq_false_iff.mpr g1]; simp)]; exact Ev.neg g1 (Ev.now _)
    · rw [if_neg (by unfold nodeB; rw [Bool.eq_false_iff.mpr g0]; simp)]; exact Ev.neg g0 (Ev.now _)
def okD (a : Int) (q : List S75) (c : Int) : Bool := In a 0 6 && decide (q.length ≤ 64) && In c 0 ((q.length : Int) + 1) && nodesFrom a q q.length 0
theorem okD_at {a : Int} {q : List S75} {c : Int} (h : okD a q c = true) : ∃ v : Nat, a = (v : Int) ∧ v ≤ 6 ∧ q.length ≤ 64 ∧ 0 ≤ c ∧ c ≤ (q.length : Int) + 1 ∧ ∀ i, i < q.length → nodeB a q i = true := by
  unfold okD at h
  simp only [Bool.and_eq_true, In_true, decide_eq_true_eq] at h
  obtain ⟨⟨⟨h1, h2⟩, h3⟩, h4⟩ := h
  obtain ⟨v, rfl⟩ := Int.eq_ofNat_of_zero_le h1.1
  exact ⟨v, rfl, by omega, h2, h3.1, h3.2, fun i hi => nodesFrom_at _ q q.length 0 i h4 (by omega) (by omega)⟩
theorem l7Table_ev (a : Int) (q : List S75) (c : Int) (hl : q.length ≤ 1048576) : Ev (fun k => spec_l7Table.f k a q c) (if okD a q c = true then (tblP a.toNat q c, true) else ([], false)) := by
  have bad : okD a q c = false → ∀ b, b = true → Ev (fun k => spec_l7Table.j0 k b a q c) (if okD a q c = true then (tblP a.toNat q c, true) else ([], false)) := fun ho b hb => by
    rw [ho, hb]; exact Ev.step (fun k => spec_l7Table.j0.eq_2 ..) (Ev.pos rfl (Ev.now _))
  unfold spec_l7Table.f
  refine Ev.bindE (spec_l1In_eq ..) ?_
  by_cases h1 : In a 0 6 = true
  · refine Ev.pos h1 ?_
    by_cases h2 : q.length ≤ 64
    · refine Ev.neg (by omega) (Ev.bindE (spec_l1In_eq ..) ?_)
      rw [wrap_id _ (by omega) (by omega)]
      by_cases h3 : In c 0 ((q.length : Int) + 1) = true
      · rw [h3]
        obtain ⟨v, rfl⟩ := Int.eq_ofNat_of_zero_le (In_true.1 h1).1
        have hv : v ≤ 6 := by have := In_true.1 h1; omega
        have hc := In_true.1 h3
        have e : okD (v : Int) q c = nodesFrom (v : Int) q q.length 0 := by unfold okD; rw [h1, h3, decide_eq_true h2]; rfl
        rw [e]
        refine Ev.step (fun k => spec_l7Table.j0.eq_2 ..) (Ev.neg (by simp) ?_)
        refine l7Table_loop0 v q h2 hv c q.length 0 (tblP v q c, true) (by omega) (fun hn => ?_)
        refine Ev.at_ (l7Table_loop1 v q h2 hv (fun i hi => nodesFrom_at _ q q.length 0 i hn (by omega) (by omega)) c hc.1 hc.2 (2 ^ v) 0 [] (by omega) (by simp)) ?_
        rw [List.nil_append, ← List.range_eq_range']; rfl
      · exact bad (by unfold okD; rw [Bool.eq_false_iff.mpr h3]; simp) _ (by rw [Bool.eq_false_iff.mpr h3]; rfl)
    · exact Ev.pos (by omega) (bad (by unfold okD; rw [decide_eq_false h2]; simp) _ rfl)
  · exact Ev.neg h1 (bad (by unfold okD; rw [Bool.eq_false_iff.mpr h1]; simp) _ rfl)
def goodD (a : Int) (q : List S75) (c : Int) : Bool := okD a q c && ((bld a.toNat 1 (tblP a.toNat q c) []).1 == c && eqL (bld a.toNat 1 (tblP a.toNat q c) []).2 q)
theorem goodD_ok {a : Int} {q : List S75} {c : Int} (h : goodD a q c = true) : okD a q c = true := by
  unfold goodD at h; rw [Bool.and_eq_true] at h; exact h.1
theorem l7Of_ev (v : Nat) (hv : v ≤ 6) (t : List Bool) (ht : t.length = 2 ^ v) : Ev (fun k => spec_l7Of.f k (v : Int) t) ((v : Int), (bld v 1 t []).2, (bld v 1 t []).1) := by
  have h6 := pow6 v hv
  have hb := bld_len v 1 t []
  have hb2 : (bld v 1 t []).2.length < 1099511627776 := by rw [List.length_nil] at hb; omega
  unfold spec_l7Of.f
  exact Ev.bind (buildS_ev v 1 t [] ht (by omega) (by omega) (by omega) (by simp; omega)) (Ev.pos hb2 (Ev.now _))
theorem diagram_ev (v : Nat) (hv : v ≤ 6) (t : List Bool) (ht : t.length = 2 ^ v) : Ev (fun k => impl_diagram.f k (v : Int) t) ((v : Int), (bld v 1 t []).2, (bld v 1 t []).1) := by
  have h6 := pow6 v hv
  unfold impl_diagram.f
  exact Ev.bind (build_ev v 1 t [] ht (by omega) (by omega) (by omega) (by simp; omega)) (Ev.now _)
theorem equalN_loop (x q : List S75) (h : x.length = q.length) (hl : x.length ≤ 1048576) : ∀ (d i : Nat), i + d = x.length → Ev (fun k => impl_Node_85.l0 k x q (x.length : Int) (i : Int)) (eqL (x.drop i) (q.drop i))
  | 0, i, hi => by
    rw [List.drop_eq_nil_of_le (by omega), List.drop_eq_nil_of_le (by omega)]
    exact Ev.step (fun k => impl_Node_85.l0.eq_2 ..) (Ev.neg (by omega) (Ev.now _))
  | d + 1, i, hi => by
    refine Ev.step (fun k => impl_Node_85.l0.eq_2 ..) (Ev.pos (by omega) (Ev.pos (by omega) (Ev.pos (by omega) (Ev.pos (by omega) ?_))))
    rw [Nodeb_nat x i (by omega), Nodeb_nat q i (by omega), w1 i (by omega), List.drop_eq_getElem_cons (show i < x.length by omega), List.drop_eq_getElem_cons (show i < q.length by omega)]
    have e : (!(x[i].f0 == q[i].f0) || (!(x[i].f1 == q[i].f1) || !(x[i].f2 == q[i].f2))) = !(eqN x[i] q[i]) := by unfold eqN; simp only [Bool.not_and]
    rw [e]
    unfold eqL
    by_cases hx : eqN x[i] q[i] = true
    · rw [hx, Bool.true_and]; exact Ev.neg (by simp) (equalN_loop x q h hl d (i + 1) (by omega))
    · rw [Bool.eq_false_iff.mpr hx, Bool.false_and]; exact Ev.pos (by simp) (Ev.now _)
theorem equalN_ev (x q : List S75) (hl : x.length ≤ 1048576) : Ev (fun k => impl_Node_85.f k x q) (eqL x q) := by
  unfold impl_Node_85.f
  by_cases h : x.length = q.length
  · have := equalN_loop x q h hl x.length 0 (by omega)
    rw [List.drop_zero, List.drop_zero] at this
    exact Ev.pos (by omega) this
  · exact Ev.neg (by omega) (Ev.at_ (Ev.now _) (eqL_len h).symm)
theorem goodI_loop (v : Nat) (q : List S75) (hq : q.length ≤ 64) (hv : v ≤ 6) (c : Int) : ∀ (d i : Nat) (R : Bool), i + d = q.length → (nodesFrom (v : Int) q d i = true → Ev (fun k => (impl_Diagram_table.f k (v : Int) q c).bind fun t196 => ((impl_diagram.f k (v : Int) t196).bind fun bt199 => (if bt199.2.2 = c then ((impl_Node_85.f k bt199.2.1 q).bind fun t205 => (some t205)) else (some false)))) R) → Ev (fun k => impl_GoodDiagram.l0 k q (q.length : Int) (i : Int) (v : Int) q c) (nodesFrom (v : Int) q d i && R)
  | 0, i, R, h, hR => Ev.step (fun k => impl_GoodDiagram.l0.eq_2 ..) (Ev.neg (by omega) (hR rfl))
  | d + 1, i, R, h, hR => by
    refine Ev.step (fun k => impl_GoodDiagram.l0.eq_2 ..) (Ev.pos (by omega) (Ev.pos (by omega) (Ev.pos (by omega) (Ev.bindE (impl_in_eq ..) ?_))))
    rw [w1 i (by omega), show ((i + 1 : Nat) : Int) = (i : Int) + 1 by omega]
    unfold nodesFrom at hR ⊢
    have ih := goodI_loop v q hq hv c d (i + 1)
    by_cases g0 : In (rd_T75 q (i : Int)).f0 1 (v : Int) = true
    · refine Ev.pos g0 (Ev.bindE (impl_in_eq ..) ?_)
      by_cases g1 : In (rd_T75 q (i : Int)).f1 0 ((i : Int) + 1) = true
      · refine Ev.pos g1 (Ev.bindE (impl_in_eq ..) ?_)
        by_cases g2 : In (rd_T75 q (i : Int)).f2 0 ((i : Int) + 1) = true
        · have e : nodeB (v : Int) q i = true := by unfold nodeB; rw [g0, g1, g2]; rfl
          rw [e, Bool.true_and] at hR ⊢
          exact Ev.pos g2 (ih R (by omega) hR)
        · refine Ev.neg g2 (Ev.at_ (Ev.now _) ?_); unfold nodeB; rw [Bool.eq_false_iff.mpr g2]; simp
      · refine Ev.neg g1 (Ev.at_ (Ev.now _) ?_); unfold nodeB; rw [Bool.eq_false_iff.mpr g1]; simp
    · refine Ev.neg g0 (Ev.at_ (Ev.now _) ?_); unfold nodeB; rw [Bool.eq_false_iff.mpr g0]; simp
theorem goodI_ev (a : Int) (q : List S75) (c : Int) (hl : q.length ≤ 1048576) : Ev (fun k => impl_GoodDiagram.f k a q c) (goodD a q c) := by
  have bad : okD a q c = false → ∀ b, b = true → Ev (fun k => impl_GoodDiagram.j0 k b a q c) (goodD a q c) := fun ho b hb => by
    rw [hb]; exact Ev.step (fun k => impl_GoodDiagram.j0.eq_2 ..) (Ev.pos rfl (Ev.at_ (Ev.now _) (by unfold goodD; rw [ho]; rfl)))
  unfold impl_GoodDiagram.f
  refine Ev.bindE (impl_in_eq ..) ?_
  by_cases h1 : In a 0 6 = true
  · refine Ev.pos h1 ?_
    by_cases h2 : q.length ≤ 64
    · refine Ev.neg (by omega) (Ev.bindE (impl_in_eq ..) ?_)
      rw [wrap_id _ (by omega) (by omega)]
      by_cases h3 : In c 0 ((q.length : Int) + 1) = true
      · rw [h3]
        obtain ⟨v, rfl⟩ := Int.eq_ofNat_of_zero_le (In_true.1 h1).1
        have hv : v ≤ 6 := by have := In_true.1 h1; omega
        have hc := In_true.1 h3
        have h6 := pow6 v hv
        have e : okD (v : Int) q c = nodesFrom (v : Int) q q.length 0 := by unfold okD; rw [h1, h3, decide_eq_true h2]; rfl
        refine Ev.step (fun k => impl_GoodDiagram.j0.eq_2 ..) (Ev.neg (by simp) (Ev.at_ (goodI_loop v q h2 hv c q.length 0 ((bld v 1 (tblP v q c) []).1 == c && eqL (bld v 1 (tblP v q c) []).2 q) (by omega) (fun hn => ?_)) (by unfold goodD; rw [e]; rfl)))
        refine Ev.bind (table_ev v q h2 hv (fun i hi => nodesFrom_at _ q q.length 0 i hn (by omega) (by omega)) c hc.1 hc.2) (Ev.bind (diagram_ev v hv _ (tblP_len v q c)) ?_)
        have hb := bld_len v 1 (tblP v q c) []
        have hb2 : (bld v 1 (tblP v q c) []).2.length ≤ 1048576 := by rw [List.length_nil] at hb; omega
        by_cases hr : (bld v 1 (tblP v q c) []).1 = c
        · refine Ev.pos hr (Ev.bind (equalN_ev _ q hb2) (Ev.at_ (Ev.now _) ?_)); rw [beq_iff_eq.mpr hr]; rfl
        · refine Ev.neg hr (Ev.at_ (Ev.now _) ?_); rw [beq_eq_false_iff_ne.mpr hr]; rfl
      · exact bad (by unfold okD; rw [Bool.eq_false_iff.mpr h3]; simp) _ (by rw [Bool.eq_false_iff.mpr h3]; rfl)
    · exact Ev.pos (by omega) (bad (by unfold okD; rw [decide_eq_false h2]; simp) _ rfl)
  · exact Ev.neg h1 (bad (by unfold okD; rw [Bool.eq_false_iff.mpr h1]; simp) _ rfl)
theorem goodS_loop (x q : List S75) (h : x.length = q.length) (hl : x.length ≤ 1048576) (a c : Int) : ∀ (d i : Nat), i + d = x.length → Ev (fun k => spec_GoodDiagram.l0 k x (x.length : Int) (i : Int) a q c) (eqL (x.drop i) (q.drop i))
  | 0, i, hi => by
    rw [List.drop_eq_nil_of_le (by omega), List.drop_eq_nil_of_le (by omega)]
    exact Ev.step (fun k => spec_GoodDiagram.l0.eq_2 ..) (Ev.neg (by omega) (Ev.now _))
  | d + 1, i, hi => by
    refine Ev.step (fun k => spec_GoodDiagram.l0.eq_2 ..) (Ev.pos (by omega) (Ev.pos (by omega) (Ev.pos (by omega) (Ev.pos (by omega) ?_))))
    rw [Nodeb_nat x i (by omega), Nodeb_nat q i (by omega), w1 i (by omega), List.drop_eq_getElem_cons (show i < x.length by omega), List.drop_eq_getElem_cons (show i < q.length by omega)]
    have e : (!(q[i].f0 == x[i].f0) || (!(q[i].f1 == x[i].f1) || !(q[i].f2 == x[i].f2))) = !(eqN x[i] q[i]) := by rw [eqN_comm]; unfold eqN; simp only [Bool.not_and]
    rw [e]
    unfold eqL
    by_cases hx : eqN x[i] q[i] = true
    · rw [hx, Bool.true_and]; exact Ev.neg (by simp) (goodS_loop x q h hl a c d (i + 1) (by omega))
    · rw [Bool.eq_false_iff.mpr hx, Bool.false_and]; exact Ev.pos (by simp) (Ev.now _)
theorem goodS_ev (a : Int) (q : List S75) (c : Int) (hl : q.length ≤ 1048576) : Ev (fun k => spec_GoodDiagram.f k a q c) (goodD a q c) := by
  unfold spec_GoodDiagram.f
  refine Ev.bind (l7Table_ev a q c hl) ?_
  by_cases ho : okD a q c = true
  · rw [if_pos ho]
    obtain ⟨v, rfl, hv, hq, _, _, _⟩ := okD_at ho
    have h6 := pow6 v hv
    have hb := bld_len v 1 (tblP v q c) []
    have hb2 : (bld v 1 (tblP v q c) []).2.length ≤ 1048576 := by rw [List.length_nil] at hb; omega
    have bad : ((bld v 1 (tblP v q c) []).1 == c && eqL (bld v 1 (tblP v q c) []).2 q) = false → ∀ b, b = true → ∀ z1 z2 z3, Ev (fun k => spec_GoodDiagram.j0 k b (v : Int) q c z1 z2 z3) (goodD (v : Int) q c) := fun hg b hb z1 z2 z3 => by
      rw [hb]; refine Ev.step (fun k => spec_GoodDiagram.j0.eq_2 ..) (Ev.pos rfl (Ev.at_ (Ev.now _) ?_))
      unfold goodD; rw [ho, Bool.true_and]; exact hg.symm
    refine Ev.pos rfl (Ev.bind (l7Of_ev v hv (tblP v q c) (tblP_len v q c)) ?_)
    by_cases hr : (bld v 1 (tblP v q c) []).1 = c
    · refine Ev.pos hr ?_
      by_cases hn : (bld v 1 (tblP v q c) []).2.length = q.length
      · simp only
        rw [show (((bld v 1 (tblP v q c) []).2.length : Int) != (q.length : Int)) = false by simp [hn]]
        refine Ev.step (fun k => spec_GoodDiagram.j0.eq_2 ..) (Ev.neg (by simp) ?_)
        have := goodS_loop (bld v 1 (tblP v q c) []).2 q hn hb2 (v : Int) c (bld v 1 (tblP v q c) []).2.length 0 (by omega)
        rw [List.drop_zero, List.drop_zero] at this
        refine Ev.at_ this ?_
        unfold goodD; rw [ho, Bool.true_and, Int.toNat_natCast, beq_iff_eq.mpr hr, Bool.true_and]
      · exact bad (by rw [eqL_len hn, Bool.and_false]) _ (by simp; omega) _ _ _
    · exact Ev.neg hr (bad (by rw [beq_eq_false_iff_ne.mpr hr]; rfl) _ rfl _ _ _)
  · rw [if_neg ho]
    refine Ev.neg (by simp) (Ev.at_ (Ev.now _) ?_)
    unfold goodD; rw [Bool.eq_false_iff.mpr ho]; rfl
theorem tableS_ev (a : Int) (q : List S75) (c : Int) (hl : q.length ≤ 1048576) : Ev (fun k => spec_TableOf.f k a q c) (if goodD a q c = true then (tblP a.toNat q c, true) else ([], false)) := by
  unfold spec_TableOf.f
  refine Ev.bind (goodS_ev a q c hl) ?_
  by_cases hg : goodD a q c = true
  · rw [if_pos hg]
    refine Ev.pos hg (Ev.bind (l7Table_ev a q c hl) ?_)
    rw [if_pos (goodD_ok hg)]; exact Ev.now _
  · rw [if_neg hg]; exact Ev.neg hg (Ev.now _)
theorem tableI_ev (a : Int) (q : List S75) (c : Int) (hl : q.length ≤ 1048576) : Ev (fun k => impl_TableOf.f k a q c) (if goodD a q c = true then (tblP a.toNat q c, true) else ([], false)) := by
  unfold impl_TableOf.f
  refine Ev.bind (goodI_ev a q c hl) ?_
  by_cases hg : goodD a q c = true
  · rw [if_pos hg]
    obtain ⟨v, rfl, hv, hq, h1, h2, h3⟩ := okD_at (goodD_ok hg)
    exact Ev.pos hg (Ev.bind (table_ev v q hq hv h3 c h1 h2) (Ev.now _))
  · rw [if_neg hg]; exact Ev.neg hg (Ev.now _)
def cnt : List Bool → Nat
  | [] => 0
  | b :: t => if b = true then cnt t + 1 else cnt t
theorem cnt_le : ∀ t : List Bool, cnt t ≤ t.length
  | [] => by simp [cnt]
  | b :: t => by have := cnt_le t; unfold cnt; split <;> simp <;> omega
theorem onesS_loop (t : List Bool) (hl : t.length ≤ 1048576) (ok : Bool) : ∀ (d i m : Nat), i + d = t.length → m ≤ i → Ev (fun k => spec_OnesOf.l0 k ok (m : Int) t (t.length : Int) (i : Int)) (((m + cnt (t.drop i) : Nat) : Int), ok)
  | 0, i, m, h, hm => by
    rw [List.drop_eq_nil_of_le (by omega)]
    exact Ev.step (fun k => spec_OnesOf.l0.eq_2 ..) (Ev.neg (by omega) (Ev.at_ (Ev.now _) (by simp [cnt])))
  | d + 1, i, m, h, hm => by
    refine Ev.step (fun k => spec_OnesOf.l0.eq_2 ..) (Ev.pos (by omega) (Ev.pos (by omega) (Ev.pos (by omega) ?_)))
    rw [rdOf_nat false t i (by omega), w1 i (by omega), w1 m (by omega), List.drop_eq_getElem_cons (show i < t.length by omega)]
    unfold cnt
    by_cases hb : t[i] = true
    · rw [if_pos hb]; exact Ev.pos hb (Ev.at_ (onesS_loop t hl ok d (i + 1) (m + 1) (by omega) (by omega)) (by rw [show m + 1 + cnt (t.drop (i + 1)) = m + (cnt (t.drop (i + 1)) + 1) by omega]))
    · rw [if_neg hb]; exact Ev.neg hb (onesS_loop t hl ok d (i + 1) m (by omega) (by omega))
theorem onesI_loop (t : List Bool) (hl : t.length ≤ 1048576) : ∀ (d i m : Nat), i + d = t.length → m ≤ i → Ev (fun k => impl_OnesOf.l0 k (m : Int) t (t.length : Int) (i : Int)) (((m + cnt (t.drop i) : Nat) : Int), true)
  | 0, i, m, h, hm => by
    rw [List.drop_eq_nil_of_le (by omega)]
    exact Ev.step (fun k => impl_OnesOf.l0.eq_2 ..) (Ev.neg (by omega) (Ev.at_ (Ev.now _) (by simp [cnt])))
  | d + 1, i, m, h, hm => by
    refine Ev.step (fun k => impl_OnesOf.l0.eq_2 ..) (Ev.pos (by omega) (Ev.pos (by omega) (Ev.pos (by omega) ?_)))
    rw [rdOf_nat false t i (by omega), w1 i (by omega), w1 m (by omega), List.drop_eq_getElem_cons (show i < t.length by omega)]
    unfold cnt
    by_cases hb : t[i] = true
    · rw [if_pos hb]; exact Ev.pos hb (Ev.at_ (onesI_loop t hl d (i + 1) (m + 1) (by omega) (by omega)) (by rw [show m + 1 + cnt (t.drop (i + 1)) = m + (cnt (t.drop (i + 1)) + 1) by omega]))
    · rw [if_neg hb]; exact Ev.neg hb (onesI_loop t hl d (i + 1) m (by omega) (by omega))
theorem onesOf_both (a : Int) (q : List S75) (c : Int) (hl : q.length ≤ 1048576) : Both (fun _ => True) (fun k => spec_OnesOf.f k a q c) (fun k => impl_OnesOf.f k a q c) := by
  unfold spec_OnesOf.f impl_OnesOf.f
  refine Both.bindL (tableS_ev a q c hl) (Both.bindR (goodI_ev a q c hl) ?_)
  by_cases hg : goodD a q c = true
  · rw [if_pos hg]
    obtain ⟨v, rfl, hv, hq, h1, h2, h3⟩ := okD_at (goodD_ok hg)
    have h6 := pow6 v hv
    have hlen : (tblP v q c).length ≤ 1048576 := by rw [tblP_len]; omega
    refine Both.posR hg (Both.bindR (table_ev v q hq hv h3 c h1 h2) ⟨_, onesS_loop (tblP v q c) hlen true (tblP v q c).length 0 0 (by omega) (by omega), onesI_loop (tblP v q c) hlen (tblP v q c).length 0 0 (by omega) (by omega), trivial⟩)
  · rw [if_neg hg]
    exact Both.negR hg ⟨_, Ev.step (fun k => spec_OnesOf.l0.eq_2 ..) (Ev.neg (by simp) (Ev.now _)), Ev.now _, trivial⟩
theorem bitM_nat (n j : Nat) (hn : n < 4611686018427387904) (hj : j ≤ 60) : bitM (n : Int) j = n.testBit j := by
  have hb : IntKind.i64.bits = 64 := rfl
  have e : shr .i64 (n : Int) (j : Int) = ((n / 2 ^ j : Nat) : Int) := by
    unfold shr
    rw [Int.toNat_natCast, hb, Nat.min_eq_left (by omega)]
    first | (rw [show ((2 : Int) ^ j) = ((2 ^ j : Nat) : Int) by rw [Int.natCast_pow]; rfl]; rfl) | (simp [Int.shiftRight_eq_div_pow]) | (norm_cast)
  unfold bitM
  rw [e]
  have h1 : n / 2 ^ j ≤ n := Nat.div_le_self _ _
  have := bits_and (n / 2 ^ j) 1 (by omega) (by omega)
  rw [show ((1 : Nat) : Int) = 1 from rfl] at this
  rw [this, Nat.and_one_is_mod, Nat.testBit_eq_decide_div_mod_eq, Bool.eq_iff_iff, beq_iff_eq, decide_eq_true_eq]
  omega
theorem index_loop (mo : List Bool) (v : Nat) (hv : v ≤ 6) (hm : mo.length = v) (a c : Int) (q : List S75) (R : Bool) (hR : ∀ x : Nat, x < 2 ^ v → (∀ j, (h : j < v) → x.testBit j = mo[j]) → Ev (fun k => impl_Diagram_value.f k a q c (x : Int)) R) : ∀ (d i x : Nat), i + d = v → x < 2 ^ i → (∀ j, (h : j < i) → (h2 : j < v) → x.testBit j = mo[j]) → Ev (fun k => impl_EvalDiagram.l0 k (x : Int) mo (mo.length : Int) (i : Int) a q c) (R, true)
  | 0, i, x, h, hx, hb => by
    obtain rfl : i = v := by omega
    exact Ev.step (fun k => impl_EvalDiagram.l0.eq_2 ..) (Ev.neg (by omega) (Ev.bind (hR x hx (fun j hj => hb j hj hj)) (Ev.now _)))
  | d + 1, i, x, h, hx, hb => by
    have hi : i < mo.length := by omega
    have h6 := pow6 i (by omega)
    have e2 : 2 ^ (i + 1) = 2 ^ i + 2 ^ i := by rw [Nat.pow_succ]; omega
    refine Ev.step (fun k => impl_EvalDiagram.l0.eq_2 ..) (Ev.pos (by omega) (Ev.pos (by omega) (Ev.pos (by omega) ?_)))
    rw [rdOf_nat false mo i hi, w1 i (by omega), shl_one i (by omega), bits_or x (2 ^ i) (by omega) (by omega)]
    have hxi : x.testBit i = false := Nat.testBit_lt_two_pow hx
    by_cases ht : mo[i] = true
    · refine Ev.pos ht (index_loop mo v hv hm a c q R hR d (i + 1) (x ||| 2 ^ i) (by omega) (Nat.or_lt_two_pow (by omega) (by omega)) (fun j hj h2 => ?_))
      rw [Nat.testBit_or, Nat.testBit_two_pow]
      by_cases hj2 : j = i
      · subst hj2; rw [hxi, ht]; simp
      · rw [hb j (by omega) h2, decide_eq_false (show ¬ i = j by omega), Bool.or_false]
    · refine Ev.neg ht (index_loop mo v hv hm a c q R hR d (i + 1) x (by omega) (by omega) (fun j hj h2 => ?_))
      by_cases hj2 : j = i
      · subst hj2; rw [hxi]; exact (Bool.eq_false_iff.mpr ht).symm
      · exact hb j (by omega) h2
theorem evalD_both (a : Int) (q : List S75) (c : Int) (mo : List Bool) (hl : q.length ≤ 1048576) (hmo : mo.length ≤ 1048576) : Both (fun _ => True) (fun k => spec_EvalDiagram.f k a q c mo) (fun k => impl_EvalDiagram.f k a q c mo) := by
  unfold spec_EvalDiagram.f impl_EvalDiagram.f
  have bad : ∀ b, b = true → Both (fun _ : Bool × Bool => True) (fun _ => some (false, false)) (fun k => impl_EvalDiagram.j0 k mo b a q c) := fun b hb => by
    rw [hb]; exact Both.stepR (fun k => impl_EvalDiagram.j0.eq_2 ..) (Both.posR rfl (Both.now _ trivial))
  refine Both.bindL (goodS_ev a q c hl) (Both.bindR (goodI_ev a q c hl) (Both.ite (fun hg => ?_) (fun _ => bad _ rfl)))
  obtain ⟨v, rfl, hv, hq, h1, h2, h3⟩ := okD_at (goodD_ok hg)
  have h6 := pow6 v hv
  by_cases hm : mo.length = v
  · refine Both.posL (by omega) (Both.bindL (l7Eval_ev v q hq hv h3 (v : Int) c mo hm (fun j => rdOf false mo j) (fun _ _ => rfl) h1 h2) ?_)
    rw [show ((mo.length : Int) != (v : Int)) = false by simp [hm]]
    refine Both.stepR (fun k => impl_EvalDiagram.j0.eq_2 ..) (Both.negR (by simp) ⟨_, Ev.now _, ?_, trivial⟩)
    refine index_loop mo v hv hm (v : Int) c q _ (fun x hx hb => ?_) v 0 0 (by omega) (by simp) (fun j hj => absurd hj (Nat.not_lt_zero _))
    refine Ev.at_ (value_ev v q hq hv h3 (v : Int) c x h1 h2) ?_
    have : ∀ (m : Nat) (p : Int), 0 ≤ p → p ≤ (m : Int) + 1 → p ≤ (q.length : Int) + 1 → evP q (bitB x) m p = evP q (fun j => rdOf false mo j) m p := by
      intro m
      induction m with
      | zero => intro p _ _ _; rfl
      | succ m ih =>
        intro p h0 hp1 hp2
        unfold evP
        by_cases hp : p > 1
        · rw [if_pos hp, if_pos hp]
          obtain ⟨i, hi⟩ := Int.eq_ofNat_of_zero_le (show 0 ≤ p - 2 by omega)
          have hg := h3 i (by omega)
          unfold nodeB at hg
          simp only [Bool.and_eq_true, In_true] at hg
          rw [hi]
          obtain ⟨j, hj⟩ := Int.eq_ofNat_of_zero_le (show 0 ≤ (rd_T75 q (i : Int)).f0 - 1 by omega)
          rw [hj]
          have hjv : j < v := by omega
          have e : bitB x (j : Int) = rdOf false mo (j : Int) := by
            unfold bitB
            rw [Int.toNat_natCast, bitM_nat x j (by omega) (by omega), hb j hjv, rdOf_nat false mo j (by omega)]
          rw [e]
          by_cases hbb : rdOf false mo (j : Int) = true
          · rw [if_pos hbb]; exact ih _ (by omega) (by omega) (by omega)
          · rw [if_neg hbb]; exact ih _ (by omega) (by omega) (by omega)
        · rw [if_neg hp, if_neg hp]
    exact this 64 c h1 (by omega) h2
  · refine Both.negL (by omega) (bad _ (by simp; omega))
theorem evAll {α : Type} {P : Nat → Nat → Option α} {β : Nat → α} : ∀ N : Nat, (∀ i, i < N → Ev (fun k => P k i) (β i)) → ∃ K, ∀ k, K ≤ k → ∀ i, i < N → P k i = some (β i)
  | 0, _ => ⟨0, fun _ _ i hi => absurd hi (Nat.not_lt_zero i)⟩
  | N + 1, h => by
    obtain ⟨K, hK⟩ := evAll N (fun i hi => h i (by omega))
    obtain ⟨K2, hK2⟩ := h N (by omega)
    refine ⟨max K K2, fun k hk i hi => ?_⟩
    by_cases e : i = N
    · rw [e]; exact hK2 k (by omega)
    · exact hK k (by omega) i (by omega)
theorem impl_NotOf_ml (p : Int → Option Bool) (N : Nat) (hN : N ≤ 1048576) (β : Nat → Bool) (hp : ∀ i : Nat, i < N → p (i : Int) = some (β i)) : ∀ (d i : Nat) (out : List Bool) (k : Nat), i + d = N → d < k → out.length ≤ i → impl_NotOf.ml k p (N : Int) out (i : Int) = some (out ++ (List.range' i d).map β)
  | 0, i, out, k, h, hk, ho => by
    obtain ⟨k, rfl⟩ : ∃ m, k = m + 1 := ⟨k - 1, by omega⟩
    unfold impl_NotOf.ml; rw [if_neg (by omega)]; simp
  | d + 1, i, out, k, h, hk, ho => by
    obtain ⟨k, rfl⟩ : ∃ m, k = m + 1 := ⟨k - 1, by omega⟩
    unfold impl_NotOf.ml
    rw [if_pos (by omega), hp i (by omega), Option.bind_some, if_pos (by omega), w1 i (by omega), impl_NotOf_ml p N hN β hp d (i + 1) (out ++ [β i]) k (by omega) (by omega) (by simp; omega)]
    simp [List.range'_succ]
theorem impl_NotOf_mapf (v : Nat) (hv : v ≤ 6) (P : Nat → Int → Option Bool) (β : Nat → Bool) (hP : ∀ i : Nat, i < 2 ^ v → Ev (fun k => P k (i : Int)) (β i)) : Ev (fun k => impl_NotOf.mapf k (P k) (v : Int)) ((v : Int), (bld v 1 ((List.range (2 ^ v)).map β) []).2, (bld v 1 ((List.range (2 ^ v)).map β) []).1) := by
  have h6 := pow6 v hv
  unfold impl_NotOf.mapf
  refine Ev.pos (by omega) ?_
  rw [shl_one v (by omega)]
  obtain ⟨K, hK⟩ := evAll (2 ^ v) hP
  have hml : Ev (fun k => impl_NotOf.ml k (P k) ((2 ^ v : Nat) : Int) [] 0) ((List.range (2 ^ v)).map β) :=
    ⟨max K (2 ^ v + 1), fun k hk => by
      have h := impl_NotOf_ml (P k) (2 ^ v) (by omega) β (hK k (by omega)) (2 ^ v) 0 [] k (by omega) (by omega) (by simp)
      rw [List.nil_append, ← List.range_eq_range'] at h
      exact h⟩
  exact Ev.bind hml (diagram_ev v hv _ (by simp))
def EvP {α : Type} (g : Nat → Option α) (P : α → Prop) : Prop := ∃ r, Ev g r ∧ P r
theorem EvP.now {α : Type} {P : α → Prop} (r : α) (h : P r) : EvP (fun _ => some r) P := ⟨r, Ev.now r, h⟩
theorem EvP.bind {α β : Type} {g : Nat → Option α} {f : Nat → α → Option β} {P : α → Prop} {Q : β → Prop} (h : EvP g P) (k : ∀ a, P a → EvP (fun n => f n a) Q) : EvP (fun n => (g n).bind (f n)) Q := by
  obtain ⟨a, h1, h2⟩ := h
  obtain ⟨r, h3, h4⟩ := k a h2
  exact ⟨r, Ev.bind h1 h3, h4⟩
theorem EvP.bindE {α β : Type} {g : Option α} {f : Nat → α → Option β} {P : α → Prop} {Q : β → Prop} (h : ∃ a, g = some a ∧ P a) (k : ∀ a, P a → EvP (fun n => f n a) Q) : EvP (fun n => g.bind (f n)) Q := by
  obtain ⟨a, rfl, h2⟩ := h; exact k a h2
theorem EvP.mono {α : Type} {g : Nat → Option α} {P Q : α → Prop} (h : EvP g P) (k : ∀ a, P a → Q a) : EvP g Q := by obtain ⟨a, h1, h2⟩ := h; exact ⟨a, h1, k a h2⟩
theorem EvP.ite {α : Type} {c : Prop} [Decidable c] {A B : Nat → Option α} {P : α → Prop} (h1 : c → EvP A P) (h2 : ¬ c → EvP B P) : EvP (fun k => if c then A k else B k) P := by
  by_cases h : c
  · obtain ⟨r, a, b⟩ := h1 h; exact ⟨r, Ev.pos h a, b⟩
  · obtain ⟨r, a, b⟩ := h2 h; exact ⟨r, Ev.neg h a, b⟩
theorem EvP.pos {α : Type} {c : Prop} [Decidable c] {A B : Nat → Option α} {P : α → Prop} (h : c) (e : EvP A P) : EvP (fun k => if c then A k else B k) P := EvP.ite (fun _ => e) (fun n => absurd h n)
theorem EvP.neg {α : Type} {c : Prop} [Decidable c] {A B : Nat → Option α} {P : α → Prop} (h : ¬ c) (e : EvP B P) : EvP (fun k => if c then A k else B k) P := EvP.ite (fun n => absurd n h) (fun _ => e)
theorem EvP.step {α : Type} {g f : Nat → Option α} {P : α → Prop} (h : ∀ k, g (k + 1) = f k) (e : EvP f P) : EvP g P := by obtain ⟨r, a, b⟩ := e; exact ⟨r, Ev.step h a, b⟩
theorem EvP.congr {α : Type} {g f : Nat → Option α} {P : α → Prop} (h : ∀ k, g k = f k) (e : EvP f P) : EvP g P := by obtain ⟨r, a, b⟩ := e; exact ⟨r, Ev.congr h a, b⟩
def Bytes (l : List Int) : Prop := l.length ≤ 1099511627776 ∧ ∀ y ∈ l, 0 ≤ y ∧ y ≤ 255
theorem Bytes.rd {l : List Int} (h : Bytes l) (i : Int) (h0 : 0 ≤ i) (h1 : i < (l.length : Int)) : 0 ≤ rd l i ∧ rd l i ≤ 255 := by
  obtain ⟨n, rfl⟩ := Int.eq_ofNat_of_zero_le h0
  have hn : n < l.length := by omega
  rw [rd_nat l n hn]
  exact h.2 _ (List.getElem_mem hn)
theorem u8_wf {y : Int} (h : (Lit.int .u8 y).wf = true) : 0 ≤ y ∧ y ≤ 255 := by
  have h' : (decide (IntKind.u8.min ≤ y) && decide (y ≤ IntKind.u8.max)) = true := h
  have e1 : IntKind.u8.min = 0 := by decide
  have e2 : IntKind.u8.max = 255 := by decide
  rw [e1, e2] at h'
  simpa using h'
def CurAt (a : Int) (n : Nat) : Prop := 0 ≤ a ∧ a ≤ n
theorem u64c (x : Int) : 0 ≤ wrap64 (Go.bits .and .u64 x 255) ∧ wrap64 (Go.bits .and .u64 x 255) ≤ 255 := by
  have h : Go.bits .and .u64 x 255 = IntKind.u64.wrap ((BitVec.ofInt 64 x &&& BitVec.ofInt 64 255).toNat : Int) := rfl
  have h2 : (BitVec.ofInt 64 x &&& BitVec.ofInt 64 255).toNat ≤ 255 := by
    rw [BitVec.toNat_and]
    exact Nat.and_le_right
  have h3 : ∀ n : Int, IntKind.u64.wrap n = n % 18446744073709551616 := fun n => by simp [IntKind.wrap, IntKind.bits, IntKind.signed]
  rw [h, h3]
  generalize (BitVec.ofInt 64 x &&& BitVec.ofInt 64 255).toNat = z at h2
  unfold wrap64
  omega
theorem next_ok {l : List Int} (hl : Bytes l) (a s : Int) (h0 : 0 ≤ a) (h1 : a ≤ 1152921504606846976) :
    ∃ r : Int × Int × Int, spec_l1Cur_next.f l a s = some r ∧ (0 ≤ r.1 ∧ r.1 ≤ 255 ∧ r.2.1 = a + 1) := by
  have ew : wrap64 (a + 1) = a + 1 := by unfold wrap64; omega
  unfold spec_l1Cur_next.f
  by_cases c1 : a < (l.length : Int)
  · have hr := hl.rd a h0 c1
    have er : wrap64 (rd l a) = rd l a := by unfold wrap64; omega
    rw [if_pos c1, if_pos h0, ew, if_pos (by omega)]
    exact ⟨_, rfl, by rw [er]; exact hr.1, by rw [er]; exact hr.2, rfl⟩
  · rw [if_neg c1, ew, if_neg (by omega)]
    exact ⟨_, rfl, (u64c _).1, (u64c _).2, rfl⟩
theorem tmod_lt {x n : Int} (h0 : 0 ≤ x) (hn : 0 < n) : 0 ≤ Int.tmod x n ∧ Int.tmod x n < n := by
  rw [Int.tmod_eq_emod_of_nonneg h0]
  exact ⟨Int.emod_nonneg _ (by omega), Int.emod_lt_of_pos _ hn⟩
theorem pick_ok {l : List Int} (hl : Bytes l) (a s n : Int) (h0 : 0 ≤ a) (h1 : a ≤ 1152921504606846975) :
    ∃ r : Int × Int × Int, spec_l1Cur_pick.f l a s n = some r ∧ (0 ≤ r.1 ∧ r.1 ≤ n - 1 ∨ r.1 = 0 ∧ n ≤ 1) ∧ a ≤ r.2.1 ∧ r.2.1 ≤ a + 2 := by
  unfold spec_l1Cur_pick.f
  by_cases c1 : n ≤ 1
  · rw [if_pos c1]; exact ⟨_, rfl, Or.inr ⟨rfl, c1⟩, Int.le_refl _, by show a ≤ a + 2; omega⟩
  · rw [if_neg c1]
    obtain ⟨r, hr, h2, h3, h4⟩ := next_ok hl a s h0 (by omega)
    rw [hr]; simp only [Option.bind_some]
    by_cases c2 : n > 200
    · rw [if_pos c2]
      obtain ⟨q, hq, h5, h6, h7⟩ := next_ok hl r.2.1 r.2.2 (by omega) (by omega)
      rw [hq]; simp only [Option.bind_some]
      rw [if_neg (by omega)]
      have e : wrap64 ((wrap64 (r.1 * 256)) + q.1) = r.1 * 256 + q.1 := by unfold wrap64; omega
      have := tmod_lt (x := r.1 * 256 + q.1) (n := n) (by omega) (by omega)
      refine ⟨_, rfl, Or.inl ?_, ?_, ?_⟩
      · rw [e]; omega
      · show a ≤ q.2.1; omega
      · show q.2.1 ≤ a + 2; omega
    · rw [if_neg c2, if_neg (by omega)]
      have := tmod_lt (x := r.1) (n := n) h2 (by omega)
      refine ⟨_, rfl, Or.inl ?_, ?_, ?_⟩
      · show 0 ≤ Int.tmod r.1 n ∧ Int.tmod r.1 n ≤ n - 1; omega
      · show a ≤ r.2.1; omega
      · show r.2.1 ≤ a + 2; omega
theorem one_ok {l : List Int} (hl : Bytes l) (a s n : Int) (h0 : 0 ≤ a) (h1 : a ≤ 1152921504606846975) :
    ∃ r : Bool × Int × Int, spec_l1Cur_one.f l a s n = some r ∧ a ≤ r.2.1 ∧ r.2.1 ≤ a + 2 := by
  unfold spec_l1Cur_one.f
  obtain ⟨r, hr, _, h2, h3⟩ := pick_ok hl a s n h0 h1
  rw [hr]; exact ⟨_, rfl, h2, h3⟩
theorem bytes_of {l : List Int} (h : l.length * 1 ≤ 140737488351232 ∧ ∀ y0_ ∈ l, (Lit.int .u8 y0_).wf = true) (hs : l.length ≤ 1048576) : Bytes l := ⟨by omega, fun y hy => u8_wf (h.2 y hy)⟩
theorem small_of {l0 l1 : List Int} (h : ¬ (wrap64 ((l0.length : Int) + (l1.length : Int))) > 1048576) (h0 : l0.length * 1 ≤ 140737488351232) (h1 : l1.length * 1 ≤ 140737488351232) : l0.length ≤ 1048576 ∧ l1.length ≤ 1048576 := by
  have e : wrap64 ((l0.length : Int) + (l1.length : Int)) = (l0.length : Int) + (l1.length : Int) := by unfold wrap64; omega
  rw [e] at h; omega
def Mt (v m x : Int) : Prop := 0 ≤ x ∧ x ≤ 65535 ∧ Go.bits .andNot .i64 x m = v
def jm (a b c d : Nat) : Nat := (b ||| d) ||| (a ^^^ c)
def carryB (k x y e : Nat) : Bool := decide (2 ^ k ≤ x % 2 ^ k + y % 2 ^ k + e)
theorem table_draw {l : List Int} (hl : Bytes l) (v : Nat) (hv : v ≤ 6) (m : Int) : ∀ (d i : Nat) (t : List Bool) (a s : Int), i + d = 2 ^ v → t.length = i → 0 ≤ a → a ≤ 1000 + 2 * (i : Int) → EvP (fun k => spec_l1Cur_table.l0 k (v : Int) t m (i : Int) l a s) (fun r => r.1.length = 2 ^ v ∧ 0 ≤ r.2.1 ∧ r.2.1 ≤ 1200)
  | 0, i, t, a, s, hd, ht, h0, h1 => by
    have h6 := pow6 v hv
    refine EvP.step (fun k => spec_l1Cur_table.l0.eq_2 ..) ?_
    rw [u64_nat v (by omega), shl_one v (by omega)]
    exact EvP.pos (by omega) (EvP.neg (by omega) (EvP.now _ ⟨by simp only; omega, h0, by simp only; omega⟩))
  | d + 1, i, t, a, s, hd, ht, h0, h1 => by
    have h6 := pow6 v hv
    refine EvP.step (fun k => spec_l1Cur_table.l0.eq_2 ..) ?_
    rw [u64_nat v (by omega), shl_one v (by omega)]
    refine EvP.pos (by omega) (EvP.pos (by omega) (EvP.bindE (one_ok hl a s m h0 (by omega)) fun r hr => EvP.pos (by omega) ?_))
    rw [w1 i (by omega)]
    exact table_draw hl v hv m d (i + 1) _ _ _ (by omega) (by simp; omega) (by omega) (by omega)
theorem table_ok {l : List Int} (hl : Bytes l) (v : Nat) (hv : v ≤ 6) (a s : Int) (h0 : 0 ≤ a) (h1 : a ≤ 900) : EvP (fun k => spec_l1Cur_table.f k l a s (v : Int)) (fun r => r.1.length = 2 ^ v ∧ 0 ≤ r.2.1 ∧ r.2.1 ≤ 1200) := by
  unfold spec_l1Cur_table.f
  refine EvP.bindE (pick_ok hl a s 3 h0 (by omega)) fun r hr => ?_
  exact table_draw hl v hv _ (2 ^ v) 0 [] _ _ (by omega) rfl (by omega) (by omega)
theorem diagramOfS (v : Nat) (hv : v ≤ 6) (t : List Bool) : Ev (fun k => spec_DiagramOf.f k (v : Int) t) (if t.length = 2 ^ v then ((v : Int), (bld v 1 t []).2, (bld v 1 t []).1, true) else (0, [], 0, false)) := by
  have h6 := pow6 v hv
  unfold spec_DiagramOf.f
  refine Ev.bindE (spec_l1In_eq ..) (Ev.pos (In_true.2 (by omega)) ?_)
  rw [u64_nat v (by omega), shl_one v (by omega)]
  refine Ev.pos (by omega) ?_
  by_cases ht : t.length = 2 ^ v
  · rw [if_pos ht]; exact Ev.pos (by omega) (Ev.bind (l7Of_ev v hv t ht) (Ev.now _))
  · rw [if_neg ht]; exact Ev.neg (by omega) (Ev.now _)
theorem diagramOfI (v : Nat) (hv : v ≤ 6) (t : List Bool) : Ev (fun k => impl_DiagramOf.f k (v : Int) t) (if t.length = 2 ^ v then ((v : Int), (bld v 1 t []).2, (bld v 1 t []).1, true) else (0, [], 0, false)) := by
  have h6 := pow6 v hv
  unfold impl_DiagramOf.f
  refine Ev.bindE (impl_in_eq ..) (Ev.pos (In_true.2 (by omega)) ?_)
  rw [shl_one v (by omega)]
  refine Ev.pos (by omega) ?_
  by_cases ht : t.length = 2 ^ v
  · rw [if_pos ht]; exact Ev.pos (by omega) (Ev.bind (diagram_ev v hv t ht) (Ev.now _))
  · rw [if_neg ht]; exact Ev.neg (by omega) (Ev.now _)
theorem diagram_draw {l : List Int} (hl : Bytes l) (v : Nat) (hv : v ≤ 6) (a s : Int) (h0 : 0 ≤ a) (h1 : a ≤ 900) : EvP (fun k => spec_l1Cur_diagram.f k l a s (v : Int)) (fun r => r.2.1.length ≤ 100 ∧ 0 ≤ r.2.2.2.1 ∧ r.2.2.2.1 ≤ 1220) := by
  unfold spec_l1Cur_diagram.f
  refine EvP.bind (table_ok hl v hv a s h0 h1) fun r hr => ?_
  have hd := diagramOfS v hv r.1
  rw [if_pos hr.1] at hd
  have h6 := pow6 v hv
  have hb := bld_len v 1 r.1 []
  rw [List.length_nil] at hb
  refine EvP.bind (P := fun d => d.2.1.length ≤ 64) ⟨_, hd, by simp only; omega⟩ fun d hd => ?_
  refine EvP.bindE (pick_ok hl _ _ 20 (by omega) (by omega)) fun r1 hr1 => EvP.ite (fun _ => ?_) (fun _ => EvP.ite (fun _ => ?_) (fun _ => EvP.now _ ?_))
  · refine EvP.bindE (pick_ok hl _ _ 5 (by omega) (by omega)) fun r2 hr2 => EvP.now _ ?_
    exact ⟨by simp only; omega, by simp only; omega, by simp only; omega⟩
  · refine EvP.bindE (pick_ok hl _ _ 4 (by omega) (by omega)) fun r2 hr2 => EvP.bindE (pick_ok hl _ _ 3 (by omega) (by omega)) fun r3 hr3 => EvP.bindE (pick_ok hl _ _ 3 (by omega) (by omega)) fun r4 hr4 => EvP.pos (by omega) (EvP.now _ ?_)
    exact ⟨by simp; omega, by simp only; omega, by simp only; omega⟩
  · exact ⟨by simp only; omega, by simp only; omega, by simp only; omega⟩
theorem nat_pick {l : List Int} (hl : Bytes l) (a s n : Int) (hn : 1 ≤ n) (h0 : 0 ≤ a) (h1 : a ≤ 1152921504606846975) :
    ∃ (m : Nat) (a' s' : Int), spec_l1Cur_pick.f l a s n = some ((m : Int), a', s') ∧ (m : Int) ≤ n - 1 ∧ a ≤ a' ∧ a' ≤ a + 2 := by
  obtain ⟨⟨x, a', s'⟩, e, h2, h3, h4⟩ := pick_ok hl a s n h0 h1
  simp only at h2 h3 h4
  obtain ⟨m, rfl⟩ := Int.eq_ofNat_of_zero_le (show 0 ≤ x by omega)
  exact ⟨m, a', s', e, by omega, h3, h4⟩
theorem findP_at : ∀ (t : List S75) (n : S75) (i : Int), 0 ≤ i → ¬ findP t n i < 0 → ∃ (j : Nat) (h : j < t.length), findP t n i = i + (j : Int) ∧ t[j] = n
  | [], n, i, h, hf => absurd (show findP [] n i < 0 by unfold findP; omega) hf
  | x :: t, n, i, h, hf => by
    unfold findP at hf ⊢
    by_cases hx : eqN x n = true
    · rw [if_pos hx]; exact ⟨0, by simp, by omega, (eqN_iff x n).1 hx⟩
    · rw [if_neg hx] at hf ⊢
      obtain ⟨j, hj, e1, e2⟩ := findP_at t n (i + 1) (by omega) hf
      exact ⟨j + 1, by simp; omega, by rw [e1]; omega, by simpa using e2⟩
theorem rdN_app (q s : List S75) (i : Nat) (h : i < q.length) : rd_T75 (q ++ s) (i : Int) = rd_T75 q (i : Int) := by
  rw [Nodeb_nat _ i (by simp; omega), Nodeb_nat _ i h, List.getElem_append_left h]
theorem nodeB_app (a : Int) (q s : List S75) (i : Nat) (h : i < q.length) : nodeB a (q ++ s) i = nodeB a q i := by unfold nodeB; rw [rdN_app q s i h]
theorem evP_low (q : List S75) (β : Int → Bool) (m : Nat) (p : Int) (h : p ≤ 1) : evP q β m p = (p == 1) := by
  cases m with
  | zero => rfl
  | succ m => unfold evP; rw [if_neg (by omega)]
theorem evP_app (a : Int) (q s : List S75) (β : Int → Bool) (ok : ∀ i, i < q.length → nodeB a q i = true) : ∀ (m : Nat) (p : Int), p ≤ (q.length : Int) + 1 → evP (q ++ s) β m p = evP q β m p
  | 0, p, _ => rfl
  | m + 1, p, hp => by
    unfold evP
    by_cases h : p > 1
    · obtain ⟨i, hi⟩ := Int.eq_ofNat_of_zero_le (show 0 ≤ p - 2 by omega)
      have hg := ok i (by omega)
      unfold nodeB at hg
      simp only [Bool.and_eq_true, In_true] at hg
      rw [if_pos h, if_pos h, hi, rdN_app q s i (by omega)]
      split
      · exact evP_app a q s β ok m _ (by omega)
      · exact evP_app a q s β ok m _ (by omega)
    · rw [if_neg h, if_neg h]
def ix (β : Int → Bool) : Int → Nat → Nat
  | _, 0 => 0
  | v, n + 1 => (if β (v - 1) = true then 1 else 0) + 2 * ix β (v + 1) n
theorem halves_get : ∀ (t : List Bool) (i : Nat), (halves t).1.getD i false = t.getD (2 * i) false ∧ (halves t).2.getD i false = t.getD (2 * i + 1) false
  | [], i => by simp [halves]
  | x :: t, 0 => by
    have := (halves_get t 0).1
    exact ⟨rfl, by show (halves t).1.getD 0 false = t.getD 0 false; exact this⟩
  | x :: t, i + 1 => by
    have h1 := (halves_get t i).2
    have h2 := (halves_get t (i + 1)).1
    refine ⟨?_, ?_⟩
    · show (halves t).2.getD i false = _
      rw [h1, show 2 * (i + 1) = (2 * i + 1) + 1 by omega]; rfl
    · show (halves t).1.getD (i + 1) false = _
      rw [h2]; rfl
theorem rd_last (q : List S75) (n : S75) : rd_T75 (q ++ [n]) ((q.length : Nat) : Int) = n := by
  rw [Nodeb_nat _ q.length (by simp)]; simp
theorem bld_ok (a : Int) : ∀ (n : Nat) (v : Int) (t : List Bool) (q : List S75), t.length = 2 ^ n → (∀ i, i < q.length → nodeB a q i = true) → 1 ≤ v → v + n ≤ a + 1 →
    (∃ s, (bld n v t q).2 = q ++ s) ∧ (∀ i, i < (bld n v t q).2.length → nodeB a (bld n v t q).2 i = true) ∧ 0 ≤ (bld n v t q).1 ∧ (bld n v t q).1 ≤ ((bld n v t q).2.length : Int) + 1 ∧ ∀ (β : Int → Bool) (m : Nat), (bld n v t q).1 ≤ (m : Int) + 1 → evP (bld n v t q).2 β m (bld n v t q).1 = t.getD (ix β v n) false
  | 0, v, t, q, ht, hq, hv, hn => by
    have e1 : (bld 0 v t q).1 = if rdOf false t 0 = true then 1 else 0 := rfl
    have e2 : (bld 0 v t q).2 = q := rfl
    rw [e1, e2]
    have e3 : ∀ β, t.getD (ix β v 0) false = rdOf false t 0 := fun β => rfl
    refine ⟨⟨[], by simp⟩, hq, by split <;> omega, by split <;> omega, fun β m hm => ?_⟩
    rw [e3, evP_low _ _ _ _ (by split <;> omega)]
    cases rdOf false t 0 <;> rfl
  | n + 1, v, t, q, ht, hq, hv, hn => by
    have hh := halves_pow t n ht
    obtain ⟨⟨s1, x1⟩, x2, x3, x4, x5⟩ := bld_ok a n (v + 1) (halves t).1 q hh.1 hq (by omega) (by omega)
    obtain ⟨⟨s2, y1⟩, y2, y3, y4, y5⟩ := bld_ok a n (v + 1) (halves t).2 (bld n (v + 1) (halves t).1 q).2 hh.2 x2 (by omega) (by omega)
    have g1 := fun β => (halves_get t (ix β (v + 1) n)).1
    have g2 := fun β => (halves_get t (ix β (v + 1) n)).2
    have eix : ∀ β, ix β v (n + 1) = (if β (v - 1) = true then 1 else 0) + 2 * ix β (v + 1) n := fun β => rfl
    unfold bld
    by_cases hx : (halves t).1 = (halves t).2
    · rw [if_pos hx]
      refine ⟨⟨s1, x1⟩, x2, x3, x4, fun β m hm => ?_⟩
      rw [x5 β m hm, eix]
      by_cases hb : β (v - 1) = true
      · rw [if_pos hb, hx, g2, Nat.add_comm]
      · rw [if_neg hb, g1, Nat.zero_add]
    · rw [if_neg hx]
      generalize bld n (v + 1) (halves t).1 q = x at *
      generalize bld n (v + 1) (halves t).2 x.2 = y at *
      have key : ∀ (q' : List S75) (s : List S75) (i : Nat) (β : Int → Bool) (m : Nat), q' = y.2 ++ s → rd_T75 q' (i : Int) = ⟨v, x.1, y.1⟩ → x.1 ≤ (i : Int) + 1 → y.1 ≤ (i : Int) + 1 → (i : Int) + 2 ≤ (m : Int) + 1 → evP q' β m ((i : Int) + 2) = t.getD (ix β v (n + 1)) false := by
        intro q' s i β m e1 e2 c1 c2 hm
        obtain ⟨m, rfl⟩ : ∃ m', m = m' + 1 := ⟨m - 1, by omega⟩
        unfold evP
        rw [if_pos (by omega), show (i : Int) + 2 - 2 = (i : Int) by omega, e2, eix]
        simp only
        by_cases hb : β (v - 1) = true
        · rw [if_pos hb, if_pos hb, e1, evP_app a y.2 s β y2 m _ y4, y5 β m (by omega), g2, Nat.add_comm]
        · rw [if_neg hb, if_neg hb, e1, evP_app a y.2 s β y2 m _ (by rw [y1]; simp; omega), y1, evP_app a x.2 s2 β x2 m _ x4, x5 β m (by omega), g1, Nat.zero_add]
      by_cases hf : findP y.2 ⟨v, x.1, y.1⟩ 0 < 0
      · rw [if_pos hf]
        have hxl : x.1 ≤ (y.2.length : Int) + 1 := by rw [y1]; simp; omega
        refine ⟨⟨s1 ++ s2 ++ [⟨v, x.1, y.1⟩], by simp only; rw [y1, x1]; simp⟩, fun i hi => ?_, by simp only; omega, by simp; omega, fun β m hm => ?_⟩
        · simp only at hi ⊢
          by_cases hl : i < y.2.length
          · rw [nodeB_app a _ _ i hl]; exact y2 i hl
          · have hi' : i < y.2.length + 1 := by simpa using hi
            obtain rfl : i = y.2.length := by omega
            unfold nodeB
            rw [rd_last]
            simp only [Bool.and_eq_true, In_true]; omega
        · simp only at hm ⊢
          exact key _ [⟨v, x.1, y.1⟩] y.2.length β m rfl (rd_last _ _) hxl (by omega) hm
      · rw [if_neg hf]
        obtain ⟨j, hj, e1, e2⟩ := findP_at y.2 ⟨v, x.1, y.1⟩ 0 (by omega) hf
        rw [Int.zero_add] at e1
        have hr : rd_T75 y.2 (j : Int) = ⟨v, x.1, y.1⟩ := by rw [Nodeb_nat _ j hj]; exact e2
        have hg := y2 j hj
        unfold nodeB at hg
        rw [hr] at hg
        simp only [Bool.and_eq_true, In_true] at hg
        simp only
        rw [e1]
        refine ⟨⟨s1 ++ s2, by rw [y1, x1]; simp⟩, y2, by omega, by omega, fun β m hm => ?_⟩
        exact key y.2 [] j β m (by simp) hr (by omega) (by omega) hm
theorem ix_bits (β : Int → Bool) (k : Nat) : ∀ (n s : Nat), (∀ j : Nat, s ≤ j → j < s + n → β (j : Int) = k.testBit j) → ix β (1 + (s : Int)) n = (k / 2 ^ s) % 2 ^ n
  | 0, s, _ => by simp [ix, Nat.mod_one]
  | n + 1, s, h => by
    have ih := ix_bits β k n (s + 1) (fun j h1 h2 => h j (by omega) (by omega))
    have e : ix β (1 + (s : Int)) (n + 1) = (if β (1 + (s : Int) - 1) = true then 1 else 0) + 2 * ix β (1 + (s : Int) + 1) n := rfl
    rw [e, show (1 + (s : Int) - 1) = (s : Int) by omega, h s (by omega) (by omega), show (1 + (s : Int) + 1) = 1 + ((s + 1 : Nat) : Int) by omega, ih, Nat.testBit_eq_decide_div_mod_eq, Nat.pow_succ 2 s, ← Nat.div_div_eq_div_mul, Nat.pow_succ 2 n, Nat.mul_comm (2 ^ n) 2]
    generalize k / 2 ^ s = m
    rw [Nat.mod_mul]
    have : m % 2 = 0 ∨ m % 2 = 1 := by omega
    rcases this with h | h <;> simp [h]
theorem nodesFrom_of (a : Int) (q : List S75) : ∀ (d i : Nat), (∀ j, i ≤ j → j < i + d → nodeB a q j = true) → nodesFrom a q d i = true
  | 0, _, _ => rfl
  | d + 1, i, h => by
    unfold nodesFrom
    rw [h i (by omega) (by omega), nodesFrom_of a q d (i + 1) (fun j h1 h2 => h j (by omega) (by omega))]; rfl
theorem bld_val (v : Nat) (hv : v ≤ 6) (t : List Bool) (ht : t.length = 2 ^ v) (β : Int → Bool) (k : Nat) (hk : k < 2 ^ v) (hβ : ∀ j : Nat, j < v → β (j : Int) = k.testBit j) : evP (bld v 1 t []).2 β 64 (bld v 1 t []).1 = t.getD k false := by
  obtain ⟨_, h2, h3, h4, h5⟩ := bld_ok (v : Int) v 1 t [] ht (fun i hi => by simp at hi) (by omega) (by omega)
  have h6 := pow6 v hv
  have hb := bld_len v 1 t []
  rw [List.length_nil] at hb
  rw [h5 β 64 (by omega)]
  have := ix_bits β k v 0 (fun j _ hj => hβ j (by omega))
  rw [show (1 + ((0 : Nat) : Int)) = 1 from rfl, Nat.pow_zero, Nat.div_one, Nat.mod_eq_of_lt hk] at this
  rw [this]
theorem bld_tbl (v : Nat) (hv : v ≤ 6) (t : List Bool) (ht : t.length = 2 ^ v) : tblP v (bld v 1 t []).2 (bld v 1 t []).1 = t := by
  have h6 := pow6 v hv
  refine List.ext_getElem (by rw [tblP_len, ht]) (fun k h1 h2 => ?_)
  have hk : k < 2 ^ v := by rw [tblP_len] at h1; exact h1
  have := bld_val v hv t ht (bitB k) k hk (fun j hj => by unfold bitB; rw [Int.toNat_natCast]; exact bitM_nat k j (by omega) (by omega))
  simp only [tblP, List.getElem_map, List.getElem_range]
  rw [this]; simp [h2]
theorem bld_good (v : Nat) (hv : v ≤ 6) (t : List Bool) (ht : t.length = 2 ^ v) : goodD (v : Int) (bld v 1 t []).2 (bld v 1 t []).1 = true := by
  obtain ⟨_, h2, h3, h4, h5⟩ := bld_ok (v : Int) v 1 t [] ht (fun i hi => by simp at hi) (by omega) (by omega)
  have h6 := pow6 v hv
  have hb := bld_len v 1 t []
  rw [List.length_nil] at hb
  unfold goodD
  rw [Int.toNat_natCast, bld_tbl v hv t ht, (eqL_iff _ _).2 rfl]
  have hok : okD (v : Int) (bld v 1 t []).2 (bld v 1 t []).1 = true := by
    unfold okD
    rw [nodesFrom_of _ _ _ 0 (fun j _ hj => h2 j (by omega)), In_true.2 ⟨by omega, by omega⟩, In_true.2 ⟨h3, h4⟩, decide_eq_true (by omega)]; rfl
  rw [hok]; simp
theorem evalD_val (v : Nat) (hv : v ≤ 6) (t : List Bool) (ht : t.length = 2 ^ v) (mo : List Bool) (hm : mo.length = v) (k : Nat) (hk : k < 2 ^ v) (hmo : ∀ j : Nat, j < v → rdOf false mo (j : Int) = k.testBit j) : Ev (fun n => impl_EvalDiagram.f n (v : Int) (bld v 1 t []).2 (bld v 1 t []).1 mo) (t.getD k false, true) := by
  have hg := bld_good v hv t ht
  obtain ⟨v', e, hv', hq, h1, h2, h3⟩ := okD_at (goodD_ok hg)
  obtain rfl : v' = v := by omega
  obtain ⟨r, r1, r2, _⟩ := evalD_both (v' : Int) (bld v' 1 t []).2 (bld v' 1 t []).1 mo (by omega) (by omega)
  have hs : Ev (fun n => spec_EvalDiagram.f n (v' : Int) (bld v' 1 t []).2 (bld v' 1 t []).1 mo) (t.getD k false, true) := by
    unfold spec_EvalDiagram.f
    refine Ev.bind (goodS_ev _ _ _ (by omega)) (Ev.pos hg (Ev.pos (by omega) (Ev.bind (l7Eval_ev v' _ hq hv h3 (v' : Int) _ mo hm (fun j => rdOf false mo j) (fun _ _ => rfl) h1 h2) (Ev.at_ (Ev.now _) ?_))))
    rw [bld_val v' hv t ht (fun j => rdOf false mo j) k hk hmo]
  rw [← Ev.one r1 hs]; exact r2
theorem notOf_val (v : Nat) (hv : v ≤ 6) (t : List Bool) (ht : t.length = 2 ^ v) : Ev (fun k => impl_NotOf.f k (v : Int) (bld v 1 t []).2 (bld v 1 t []).1) ((v : Int), (bld v 1 (t.map (fun b => !b)) []).2, (bld v 1 (t.map (fun b => !b)) []).1, true) := by
  have hg := bld_good v hv t ht
  have htb := bld_tbl v hv t ht
  obtain ⟨v', e, hv', hq, h1, h2, h3⟩ := okD_at (goodD_ok hg)
  obtain rfl : v' = v := by omega
  generalize (bld v' 1 t []).2 = q at *
  generalize (bld v' 1 t []).1 = c at *
  have hm := impl_NotOf_mapf v' hv (fun k => impl_NotOf.pr k (v' : Int) q c) (fun i => !evP q (bitB i) 64 c) (fun i _ => by
      unfold impl_NotOf.pr; exact Ev.bind (value_ev v' q hq hv h3 (v' : Int) c i h1 h2) (Ev.now _))
  have e : (List.range (2 ^ v')).map (fun i => !evP q (bitB i) 64 c) = t.map (fun b => !b) := by rw [← htb]; unfold tblP; rw [List.map_map]; rfl
  rw [e] at hm
  unfold impl_NotOf.f
  exact Ev.bind (goodI_ev _ _ _ (by omega)) (Ev.pos hg (Ev.bind hm (Ev.now _)))
theorem sameBools_loop (a b : List Bool) (h : a.length = b.length) (hl : a.length ≤ 1048576) : ∀ (d i : Nat), i + d = a.length → Ev (fun k => laws_sameBools.l0 k a b (a.length : Int) (i : Int)) (decide (a.drop i = b.drop i))
  | 0, i, hi => by
    rw [List.drop_eq_nil_of_le (by omega), List.drop_eq_nil_of_le (by omega)]
    exact Ev.step (fun k => laws_sameBools.l0.eq_2 ..) (Ev.neg (by omega) (Ev.at_ (Ev.now _) (by simp)))
  | d + 1, i, hi => by
    refine Ev.step (fun k => laws_sameBools.l0.eq_2 ..) (Ev.pos (by omega) (Ev.pos (by omega) (Ev.pos (by omega) (Ev.pos (by omega) ?_))))
    rw [rdOf_nat false a i (by omega), rdOf_nat false b i (by omega), w1 i (by omega), List.drop_eq_getElem_cons (show i < a.length by omega), List.drop_eq_getElem_cons (show i < b.length by omega)]
    by_cases hx : a[i] = b[i]
    · refine Ev.neg (by simp [hx]) (Ev.at_ (sameBools_loop a b h hl d (i + 1) (by omega)) ?_)
      simp only [hx, List.cons.injEq, true_and]
    · refine Ev.pos (by simpa using hx) (Ev.at_ (Ev.now _) ?_)
      simp only [List.cons.injEq, hx, false_and, decide_false]
theorem sameBools_self (a : List Bool) (hl : a.length ≤ 1048576) : Ev (fun k => laws_sameBools.f k a a) true := by
  have h := sameBools_loop a a rfl hl a.length 0 (by omega)
  unfold laws_sameBools.f
  exact Ev.pos rfl (Ev.at_ h (by simp))
theorem sameDiagram_loop (a c a' c' : Int) (x q : List S75) (h : x.length = q.length) (hl : x.length ≤ 1048576) : ∀ (d i : Nat), i + d = x.length → Ev (fun k => laws_sameDiagram.l0 k (x.length : Int) (i : Int) a x c a' q c') (eqL (x.drop i) (q.drop i))
  | 0, i, hi => by
    rw [List.drop_eq_nil_of_le (by omega), List.drop_eq_nil_of_le (by omega)]
    exact Ev.step (fun k => laws_sameDiagram.l0.eq_2 ..) (Ev.neg (by omega) (Ev.now _))
  | d + 1, i, hi => by
    refine Ev.step (fun k => laws_sameDiagram.l0.eq_2 ..) (Ev.pos (by omega) (Ev.pos (by omega) (Ev.pos (by omega) (Ev.pos (by omega) ?_))))
    rw [Nodeb_nat x i (by omega), Nodeb_nat q i (by omega), w1 i (by omega), List.drop_eq_getElem_cons (show i < x.length by omega), List.drop_eq_getElem_cons (show i < q.length by omega)]
    have e : (!(x[i].f0 == q[i].f0) || (!(x[i].f1 == q[i].f1) || !(x[i].f2 == q[i].f2))) = !(eqN x[i] q[i]) := by unfold eqN; simp only [Bool.not_and]
    rw [e]
    unfold eqL
    by_cases hx : eqN x[i] q[i] = true
    · rw [hx, Bool.true_and]; exact Ev.neg (by simp) (sameDiagram_loop a c a' c' x q h hl d (i + 1) (by omega))
    · rw [Bool.eq_false_iff.mpr hx, Bool.false_and]; exact Ev.pos (by simp) (Ev.now _)
theorem sameDiagram_ev (a c a' c' : Int) (x q : List S75) (hl : x.length ≤ 1048576) : Ev (fun k => laws_sameDiagram.f k a x c a' q c') (decide (a = a') && (decide (c = c') && eqL x q)) := by
  have bad : ∀ b : Bool, b = false → Ev (fun k => laws_sameDiagram.j0 k true a x c a' q c') b := fun b hb => by
    rw [hb]; exact Ev.step (fun k => laws_sameDiagram.j0.eq_2 ..) (Ev.pos rfl (Ev.now _))
  unfold laws_sameDiagram.f
  by_cases ha : a = a'
  · refine Ev.pos ha ?_
    by_cases hc : c = c'
    · refine Ev.pos hc ?_
      rw [decide_eq_true ha, decide_eq_true hc, Bool.true_and, Bool.true_and]
      by_cases hn : x.length = q.length
      · rw [show ((x.length : Int) != (q.length : Int)) = false by simp [hn]]
        have h := sameDiagram_loop a c a' c' x q hn hl x.length 0 (by omega)
        exact Ev.step (fun k => laws_sameDiagram.j0.eq_2 ..) (Ev.neg (by simp) h)
      · rw [show ((x.length : Int) != (q.length : Int)) = true by simp; omega]
        exact bad _ (eqL_len hn)
    · exact Ev.neg hc (bad _ (by rw [decide_eq_false hc]; simp))
  · exact Ev.neg ha (bad _ (by rw [decide_eq_false ha]; simp))
theorem sameDiagram_self (a c : Int) (x : List S75) (hl : x.length ≤ 1048576) : Ev (fun k => laws_sameDiagram.f k a x c a x c) true := by
  have h := sameDiagram_ev a c a c x x hl
  rw [(eqL_iff x x).2 rfl] at h
  exact Ev.at_ h (by simp)
theorem modelOf_loop (n : Nat) (hn : n ≤ 1048576) (x : Int) : ∀ (d i : Nat) (acc : List Bool), i + d = n → acc.length = n → acc.take i = (modelM n x).take i → Ev (fun k => laws_modelOf.l0 k x acc (n : Int) (i : Int)) (modelM n x)
  | 0, i, acc, hi, ha, ht => by
    refine Ev.step (fun k => laws_modelOf.l0.eq_2 ..) (Ev.neg (by omega) ?_)
    rw [List.take_of_length_le (by omega), List.take_of_length_le (by rw [modelM_len]; omega)] at ht
    rw [ht]; exact Ev.now _
  | d + 1, i, acc, hi, ha, ht => by
    refine Ev.step (fun k => laws_modelOf.l0.eq_2 ..) ?_
    rw [u64_nat i (by omega), w1 i (by omega), Int.toNat_natCast]
    refine Ev.pos (by omega) <| Ev.pos (by omega) <| Ev.pos (by omega) <| Ev.pos (by omega) ?_
    refine modelOf_loop n hn x d (i + 1) _ (by omega) (by simpa using ha) ?_
    rw [set_take _ _ _ (by omega), ht, List.take_succ_eq_append_getElem (l := modelM n x) (by rw [modelM_len]; omega)]
    simp [modelM, bitM]
theorem modelOf_ev (n : Nat) (hn : n ≤ 1048576) (x : Int) : Ev (fun k => laws_modelOf.f k (n : Int) x) (modelM n x) := by
  unfold laws_modelOf.f
  refine Ev.pos (by omega) <| Ev.pos (by omega) <| Ev.bindE rfl ?_
  rw [Int.toNat_natCast, List.length_replicate]
  exact modelOf_loop n hn x n 0 _ (by omega) (by simp) (by simp)
theorem drawDiagramOf_ok {l : List Int} (hl : Bytes l) : ∃ (v : Nat) (t : List Bool), Ev (fun k => spec_DrawDiagramOf.f k l) ((v : Int), t) ∧ v ≤ 6 ∧ t.length ≤ 100 := by
  have hj : ∀ (v : Nat) (hv : v ≤ 6) (a s : Int), 0 ≤ a → a ≤ 900 → ∃ t : List Bool, Ev (fun k => spec_DrawDiagramOf.j0 k (v : Int) l a s) ((v : Int), t) ∧ t.length ≤ 100 := by
    intro v hv a s h0 h1
    obtain ⟨⟨t, a1, s1⟩, e, h2, h3, h4⟩ := table_ok hl v hv a s h0 h1
    simp only at h2 h3 h4
    have h6 := pow6 v hv
    obtain ⟨⟨b, a2, s2⟩, e2, _⟩ := one_ok hl a1 s1 20 h3 (by omega)
    by_cases hb : b = true
    · refine ⟨t ++ [true], Ev.step (fun k => spec_DrawDiagramOf.j0.eq_2 ..) (Ev.bind e (Ev.bindE e2 (Ev.pos hb (Ev.pos (by simp only; omega) (Ev.now _))))), by simp; omega⟩
    · exact ⟨t, Ev.step (fun k => spec_DrawDiagramOf.j0.eq_2 ..) (Ev.bind e (Ev.bindE e2 (Ev.neg hb (Ev.now _)))), by omega⟩
  obtain ⟨m, a1, s1, e1, h1, h2, h3⟩ := nat_pick hl 0 0 6 (by omega) (by omega) (by omega)
  obtain ⟨⟨b, a2, s2⟩, e2, h4, h5⟩ := one_ok hl a1 s1 20 (by omega) (by omega)
  simp only at h4 h5
  unfold spec_DrawDiagramOf.f
  by_cases hb : b = true
  · obtain ⟨t, h, ht⟩ := hj 6 (by omega) a2 s2 (by omega) (by omega)
    exact ⟨6, t, Ev.bindE e1 (Ev.bindE e2 (Ev.pos hb h)), by omega, ht⟩
  · obtain ⟨t, h, ht⟩ := hj m (by omega) a2 s2 (by omega) (by omega)
    exact ⟨m, t, Ev.bindE e1 (Ev.bindE e2 (Ev.neg hb h)), by omega, ht⟩
theorem tdiv19 (m : Nat) (p : Int) (hm : m ≤ 4) (h0 : 0 ≤ p) (hp : p ≤ 19) : ∃ z : Nat, wrap64 ((m : Int) + wrap64 (Int.tdiv p 19)) = (z : Int) ∧ z ≤ 5 := by
  have h7 : Int.tdiv p 19 = p / 19 := Int.tdiv_eq_ediv_of_nonneg h0
  rw [h7, wrap_id (p / 19) (by omega) (by omega), wrap_id _ (by omega) (by omega)]
  obtain ⟨q, rfl⟩ := Int.eq_ofNat_of_zero_le h0
  exact ⟨m + q / 19, by omega, by omega⟩
theorem drawEvalDiagram_ok {l : List Int} (hl : Bytes l) : EvP (fun k => spec_DrawEvalDiagram.f k l) (fun r => r.2.1.length ≤ 100 ∧ r.2.2.2.length ≤ 100) := by
  unfold spec_DrawEvalDiagram.f
  obtain ⟨m, a1, s1, e1, h1, h2, h3⟩ := nat_pick hl 0 0 5 (by omega) (by omega) (by omega)
  refine EvP.bindE (P := fun r => r = ((m : Int), a1, s1)) ⟨_, e1, rfl⟩ fun r0 h0 => ?_
  subst h0
  refine EvP.bind (diagram_draw hl m (by omega) a1 s1 (by omega) (by omega)) fun r hr => ?_
  refine EvP.bindE (pick_ok hl _ _ 20 (by omega) (by omega)) fun p hp => EvP.bindE (pick_ok hl _ _ 64 (by omega) (by omega)) fun z hz => ?_
  obtain ⟨y, hy, hy2⟩ := tdiv19 m p.1 (by omega) (by omega) (by omega)
  simp only [hy]
  exact EvP.bind (P := fun b => b.length ≤ 100) ⟨_, spec_l4Model_ev y (by omega) _, by show (modelM y _).length ≤ 100; rw [modelM_len]; omega⟩ fun b hb => EvP.now _ ⟨hr.1, hb⟩
theorem drawOnesOf_ok {l : List Int} (hl : Bytes l) : EvP (fun k => spec_DrawOnesOf.f k l) (fun r => r.2.1.length ≤ 100) := by
  unfold spec_DrawOnesOf.f
  refine EvP.bind ?_ (fun r hr => EvP.now _ hr)
  unfold spec_DrawGoodDiagram.f
  obtain ⟨m, a1, s1, e1, h1, h2, h3⟩ := nat_pick hl 0 0 5 (by omega) (by omega) (by omega)
  rw [e1]; simp only [Option.bind_some]
  exact EvP.bind (diagram_draw hl m (by omega) a1 s1 (by omega) (by omega)) fun r hr => EvP.now _ hr.1
theorem diagrams_tail {l : List Int} (hl : Bytes l) : Ev (fun k => laws_FnDiagrams.j3 k l) true := by
  refine Ev.step (fun k => laws_FnDiagrams.j3.eq_2 ..) ?_
  obtain ⟨⟨x0, q, x1, mo⟩, e1, hq, hmo⟩ := drawEvalDiagram_ok hl
  obtain ⟨⟨y0, p, y1⟩, e2, hp⟩ := drawOnesOf_ok hl
  simp only at hq hmo hp
  obtain ⟨⟨u1, u2⟩, a1, a2, _⟩ := evalD_both x0 q x1 mo (by omega) (by omega)
  obtain ⟨⟨n1, n2⟩, b1, b2, _⟩ := onesOf_both y0 p y1 (by omega)
  have c1 := tableS_ev y0 p y1 (by omega)
  have c2 := tableI_ev y0 p y1 (by omega)
  have hv : (if goodD y0 p y1 = true then (tblP y0.toNat p y1, true) else ([], false)).1.length ≤ 1048576 := by
    by_cases hg : goodD y0 p y1 = true
    · rw [if_pos hg]
      obtain ⟨v, rfl, hv, _⟩ := okD_at (goodD_ok hg)
      have := pow6 v hv
      simp only [tblP_len, Int.toNat_natCast]; omega
    · rw [if_neg hg]; simp
  generalize (if goodD y0 p y1 = true then (tblP y0.toNat p y1, true) else ([], false)) = r at c1 c2 hv
  have d1 := goodI_ev y0 p y1 (by omega)
  have d2 := goodS_ev y0 p y1 (by omega)
  exact Ev.bind e1 <| Ev.bind a2 <| Ev.bind a1 <| Ev.bind e2 <| Ev.bind b2 <| Ev.bind b1 <| Ev.bind c2 <| Ev.bind c1 <| Ev.pos (by simp) <| Ev.pos (by simp) <| Ev.pos (by simp) <| Ev.pos rfl <| Ev.pos (by simp) <| Ev.bind (sameBools_self _ hv) <| Ev.pos rfl <| Ev.bind d1 <| Ev.bind d2 <| Ev.at_ (Ev.now _) (by simp)
theorem diagrams_loop {l : List Int} (v : Nat) (hv : v ≤ 6) (t : List Bool) (ht : t.length = 2 ^ v)
    (tail : Ev (fun k => laws_FnDiagrams.l0 k l (v : Int) t t true ((cnt t : Nat) : Int) true ((cnt t : Nat) : Int) t (t.length : Int) (t.length : Int) (v : Int) (bld v 1 t []).2 (bld v 1 t []).1) true) :
    ∀ (d i m : Nat), i + d = t.length → m + cnt (t.drop i) = cnt t → Ev (fun k => laws_FnDiagrams.l0 k l (v : Int) t t true ((cnt t : Nat) : Int) true (m : Int) t (t.length : Int) (i : Int) (v : Int) (bld v 1 t []).2 (bld v 1 t []).1) true
  | 0, i, m, hi, hm => by
    rw [List.drop_eq_nil_of_le (by omega)] at hm
    have e1 : i = t.length := by omega
    have e2 : m = cnt t := by simpa [cnt] using hm
    rw [e1, e2]; exact tail
  | d + 1, i, m, hi, hm => by
    have h6 := pow6 v hv
    have hlt : i < t.length := by omega
    have hc := cnt_le t
    rw [List.drop_eq_getElem_cons hlt] at hm
    have ih := diagrams_loop v hv t ht tail d (i + 1)
    have hmod := modelOf_ev v (by omega) (i : Int)
    have hev := evalD_val v hv t ht (modelM v (i : Int)) (modelM_len v _) i (by omega) (fun j hj => by
      rw [rdOf_nat false _ j (by rw [modelM_len]; exact hj)]
      simp only [modelM, List.getElem_map, List.getElem_range]
      exact bitM_nat i j (by omega) (by omega))
    have e : t.getD i false = t[i] := by simp [hlt]
    rw [e] at hev
    refine Ev.step (fun k => laws_FnDiagrams.l0.eq_2 ..) (Ev.pos (by omega) (Ev.pos (by omega) (Ev.pos (by omega) ?_)))
    rw [rdOf_nat false t i hlt]
    refine Ev.bind hmod (Ev.bind hev (Ev.pos rfl ?_))
    show Ev (fun k => laws_FnDiagrams.j2 k l (v : Int) t t true ((cnt t : Nat) : Int) true (m : Int) t[i] t (t.length : Int) (i : Int) (t[i] != t[i]) (v : Int) (bld v 1 t []).2 (bld v 1 t []).1) true
    refine Ev.step (fun k => laws_FnDiagrams.j2.eq_2 ..) (Ev.neg (by simp) ?_)
    rw [w1 i (by omega)]
    have ec : cnt (t[i] :: t.drop (i + 1)) = if t[i] = true then cnt (t.drop (i + 1)) + 1 else cnt (t.drop (i + 1)) := rfl
    rw [ec] at hm
    by_cases hb : t[i] = true
    · rw [if_pos hb] at hm
      rw [w1 m (by omega)]
      exact Ev.pos hb (ih (m + 1) (by omega) (by omega))
    · rw [if_neg hb] at hm
      exact Ev.neg hb (ih m (by omega) hm)
theorem FnDiagrams : laws_FnDiagrams.Pure := by
  intro l0 l1 _ y0 hw0 _ y1 hw1
  refine Ev.rounds ?_
  unfold laws_FnDiagrams.f
  by_cases hlen : wrap64 ((l0.length : Int) + (l1.length : Int)) > 1048576
  · exact Ev.pos hlen (Ev.now _)
  refine Ev.neg hlen ?_
  obtain ⟨s0, s1⟩ := small_of hlen y0 y1
  have hb0 := bytes_of ⟨y0, hw0⟩ s0
  have hb1 := bytes_of ⟨y1, hw1⟩ s1
  obtain ⟨v, t, e, hv, hl⟩ := drawDiagramOf_ok hb0
  have htail := diagrams_tail hb1
  have d1 := diagramOfI v hv t
  have d2 := diagramOfS v hv t
  refine Ev.bind e (Ev.bind d1 (Ev.bind d2 (Ev.neg (by simp) ?_)))
  by_cases ht : t.length = 2 ^ v
  · have h6 := pow6 v hv
    have hbl := bld_len v 1 t []
    rw [List.length_nil] at hbl
    simp only [if_pos ht]
    refine Ev.bind (sameDiagram_self _ _ _ (by show (bld v 1 t []).2.length ≤ 1048576; omega)) ?_
    refine Ev.step (fun k => laws_FnDiagrams.j0.eq_2 ..) (Ev.neg (by simp) (Ev.pos rfl ?_))
    have hg := bld_good v hv t ht
    have htb := bld_tbl v hv t ht
    have t1 := tableI_ev (v : Int) (bld v 1 t []).2 (bld v 1 t []).1 (by omega)
    rw [if_pos hg, Int.toNat_natCast, htb] at t1
    obtain ⟨v', e', hv', hq, h1, h2, h3⟩ := okD_at (goodD_ok hg)
    obtain rfl : v' = v := by omega
    have t2 : Ev (fun k => impl_OnesOf.f k (v' : Int) (bld v' 1 t []).2 (bld v' 1 t []).1) (((cnt t : Nat) : Int), true) := by
      have h := onesI_loop t (by omega) t.length 0 0 (by omega) (by omega)
      rw [List.drop_zero, Nat.zero_add] at h
      have h4 := table_ev v' _ hq hv h3 _ h1 h2
      rw [htb] at h4
      unfold impl_OnesOf.f
      exact Ev.bind (goodI_ev _ _ _ (by omega)) (Ev.pos hg (Ev.bind h4 h))
    refine Ev.bind t1 (Ev.bind t2 ?_)
    refine diagrams_loop v' hv t ht ?_ t.length 0 0 (by omega) (by rw [List.drop_zero]; omega)
    have htn : (t.map (fun b => !b)).length = 2 ^ v' := by simp [ht]
    have n1 := notOf_val v' hv t ht
    have n2 := notOf_val v' hv (t.map (fun b => !b)) htn
    have e2 : (t.map (fun b => !b)).map (fun b => !b) = t := by simp [Function.comp_def]
    rw [e2] at n2
    have hbl2 := bld_len v' 1 (t.map (fun b => !b)) []
    rw [List.length_nil] at hbl2
    have hne : (decide ((v' : Int) = (v' : Int)) && (decide ((bld v' 1 (t.map (fun b => !b)) []).1 = (bld v' 1 t []).1) && eqL (bld v' 1 (t.map (fun b => !b)) []).2 (bld v' 1 t []).2)) = false := by
      rw [Bool.eq_false_iff]
      intro hx
      simp only [decide_true, Bool.true_and, Bool.and_eq_true, decide_eq_true_eq, eqL_iff] at hx
      have hh := bld_tbl v' hv (t.map (fun b => !b)) htn
      rw [hx.1, hx.2, htb] at hh
      cases t with
      | nil => exact absurd ht (by have := Nat.pow_pos (n := v') (show 0 < 2 by decide); simp; omega)
      | cons b t => cases b <;> simp at hh
    have sd := sameDiagram_ev (v' : Int) (bld v' 1 (t.map (fun b => !b)) []).1 (v' : Int) (bld v' 1 t []).1 (bld v' 1 (t.map (fun b => !b)) []).2 (bld v' 1 t []).2 (by omega)
    rw [hne] at sd
    refine Ev.step (fun k => laws_FnDiagrams.l0.eq_2 ..) (Ev.neg (by omega) (Ev.bind n1 (Ev.bind n2 (Ev.bind (goodI_ev _ _ _ (by omega)) (Ev.pos hg (Ev.pos rfl (Ev.bind (sameBools_self t (by omega)) (Ev.pos rfl (Ev.pos rfl (Ev.pos rfl (Ev.pos rfl (Ev.pos rfl (Ev.bind (sameDiagram_self _ _ _ (by show (bld v' 1 t []).2.length ≤ 1048576; omega)) (Ev.pos rfl (Ev.bind sd (Ev.neg (by simp) htail))))))))))))))))
  · simp only [if_neg ht]
    refine Ev.bind (sameDiagram_self _ _ _ (by simp)) ?_
    exact Ev.step (fun k => laws_FnDiagrams.j0.eq_2 ..) (Ev.neg (by simp) (Ev.neg (by simp) htail))
end Go.Proofs.Ytpndhlcbfobelaa.Pure
