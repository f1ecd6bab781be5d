import Derived.Test.YtcmhkgpalfljbaaPPAx1
import Derived.Test.YtcmhkgpalfljbaaPPAx10
import Derived.Test.YtcmhkgpalfljbaaPPAx11
import Derived.Test.YtcmhkgpalfljbaaPPAx12
import Derived.Test.YtcmhkgpalfljbaaPPAx13
import Derived.Test.YtcmhkgpalfljbaaPPAx14
import Derived.Test.YtcmhkgpalfljbaaPPAx15
import Derived.Test.YtcmhkgpalfljbaaPPAx16
import Derived.Test.YtcmhkgpalfljbaaPPAx17
import Derived.Test.YtcmhkgpalfljbaaPPAx2
import Derived.Test.YtcmhkgpalfljbaaPPAx3
import Derived.Test.YtcmhkgpalfljbaaPPAx4
import Derived.Test.YtcmhkgpalfljbaaPPAx5
import Derived.Test.YtcmhkgpalfljbaaPPAx6
import Derived.Test.YtcmhkgpalfljbaaPPAx7
import Derived.Test.YtcmhkgpalfljbaaPPAx8
import Derived.Test.YtcmhkgpalfljbaaPPAx9
namespace Go.Proofs.Ytcmhkgpalfljbaa.Pure
open Go Go.RowKit Go.Proofs.Ytcmhkgpalfljbaa.PPA Go.Proofs.YtcmhkgpalfljbaaW.PrintWords Go.Proofs.YtcmhkgpalfljbaaW.PrintLast Go.Proofs.YtcmhkgpalfljbaaW.PrintMore
set_option linter.unusedVariables false
set_option linter.unusedSimpArgs false
def In (a lo hi : Int) : Bool := decide (lo ≤ a) && decide (a ≤ hi)
theorem In_true {a lo hi : Int} : In a lo hi = true ↔ lo ≤ a ∧ a ≤ hi := by simp [In]
theorem In_false {a lo hi : Int} : In a lo hi = false ↔ ¬ (lo ≤ a ∧ a ≤ hi) := by rw [← In_true]; simp
theorem In_ite {a lo hi : Int} : (if a ≥ lo then some (decide (a ≤ hi)) else some false) = some (In a lo hi) := by
  unfold In; by_cases h : lo ≤ a <;> simp [h]
theorem spec_l1In_eq (a b c : Int) : spec_l1In.f a b c = some (In a b c) := by unfold spec_l1In.f; exact In_ite
theorem impl_in_eq (a b c : Int) : impl_in.f a b c = some (In a b c) := by unfold impl_in.f; exact In_ite
def andn (a b : Nat) : Nat := a ^^^ (a &&& b)
theorem wrap_i64_nat (n : Nat) (h : n < 9223372036854775808) : IntKind.i64.wrap (n : Int) = n := by
  rw [IntKind.wrap_i64]; omega
theorem ofInt_nat (n : Nat) : BitVec.ofInt 64 (n : Int) = BitVec.ofNat 64 n := BitVec.ofInt_natCast 64 n
theorem bits_and (a b : Nat) (ha : a < 9223372036854775808) (hb : b < 9223372036854775808) : Go.bits .and .i64 a b = ((a &&& b : Nat) : Int) := by
  show IntKind.i64.wrap (((BitVec.ofInt 64 (a : Int)) &&& (BitVec.ofInt 64 (b : Int))).toNat : Int) = _
  rw [ofInt_nat, ofInt_nat, BitVec.toNat_and, BitVec.toNat_ofNat, BitVec.toNat_ofNat, Nat.mod_eq_of_lt (by omega), Nat.mod_eq_of_lt (by omega)]
  exact wrap_i64_nat _ (Nat.lt_of_le_of_lt Nat.and_le_left ha)
theorem or_lt63 {a b : Nat} (ha : a < 9223372036854775808) (hb : b < 9223372036854775808) : a ||| b < 9223372036854775808 := Nat.or_lt_two_pow (n := 63) ha hb
theorem xor_lt63 {a b : Nat} (ha : a < 9223372036854775808) (hb : b < 9223372036854775808) : a ^^^ b < 9223372036854775808 := Nat.xor_lt_two_pow (n := 63) ha hb
theorem bits_or (a b : Nat) (ha : a < 9223372036854775808) (hb : b < 9223372036854775808) : Go.bits .or .i64 a b = ((a ||| b : Nat) : Int) := by
  show IntKind.i64.wrap (((BitVec.ofInt 64 (a : Int)) ||| (BitVec.ofInt 64 (b : Int))).toNat : Int) = _
  rw [ofInt_nat, ofInt_nat, BitVec.toNat_or, BitVec.toNat_ofNat, BitVec.toNat_ofNat, Nat.mod_eq_of_lt (by omega), Nat.mod_eq_of_lt (by omega)]
  exact wrap_i64_nat _ (or_lt63 ha hb)
theorem bits_xor (a b : Nat) (ha : a < 9223372036854775808) (hb : b < 9223372036854775808) : Go.bits .xor .i64 a b = ((a ^^^ b : Nat) : Int) := by
  show IntKind.i64.wrap (((BitVec.ofInt 64 (a : Int)) ^^^ (BitVec.ofInt 64 (b : Int))).toNat : Int) = _
  rw [ofInt_nat, ofInt_nat, BitVec.toNat_xor, BitVec.toNat_ofNat, BitVec.toNat_ofNat, Nat.mod_eq_of_lt (by omega), Nat.mod_eq_of_lt (by omega)]
  exact wrap_i64_nat _ (xor_lt63 ha hb)
theorem Ev.pos {α : Type} {c : Prop} [Decidable c] {A B : Nat → Option α} {r : α} (h : c) (e : Ev A r) : Ev (fun k => if c then A k else B k) r := Ev.congr (fun _ => if_pos h) e
theorem Ev.neg {α : Type} {c : Prop} [Decidable c] {A B : Nat → Option α} {r : α} (h : ¬ c) (e : Ev B r) : Ev (fun k => if c then A k else B k) r := Ev.congr (fun _ => if_neg h) e
theorem Ev.bindE {α β : Type} {g : Option α} {f : Nat → α → Option β} {a : α} {r : β} (h : g = some a) (k : Ev (fun n => f n a) r) : Ev (fun n => g.bind (f n)) r := by subst h; exact k
theorem Ev.at_ {α : Type} {g : Nat → Option α} {r r' : α} (h : Ev g r) (e : r = r') : Ev g r' := e ▸ h
theorem Ev.one {α : Type} {g : Nat → Option α} {r r' : α} (h : Ev g r) (h' : Ev g r') : r = r' := by
  obtain ⟨K, h⟩ := h; obtain ⟨K', h'⟩ := h'
  have a := h (max K K') (by omega); have b := h' (max K K') (by omega)
  rw [a] at b; exact Option.some.inj b
def Both {α : Type} (P : α → Prop) (g f : Nat → Option α) : Prop := ∃ r, Ev g r ∧ Ev f r ∧ P r
theorem Both.now {α : Type} {P : α → Prop} (r : α) (h : P r) : Both P (fun _ => some r) (fun _ => some r) := ⟨r, Ev.now r, Ev.now r, h⟩
theorem Both.mono {α : Type} {P Q : α → Prop} {g f : Nat → Option α} (h : Both P g f) (hq : ∀ r, P r → Q r) : Both Q g f := by obtain ⟨r, a, b, c⟩ := h; exact ⟨r, a, b, hq r c⟩
theorem Both.congrL {α : Type} {P : α → Prop} {g g' f : Nat → Option α} (e : ∀ k, g k = g' k) (h : Both P g' f) : Both P g f := by obtain ⟨r, a, b, c⟩ := h; exact ⟨r, a.congr e, b, c⟩
theorem Both.congrR {α : Type} {P : α → Prop} {g f f' : Nat → Option α} (e : ∀ k, f k = f' k) (h : Both P g f') : Both P g f := by obtain ⟨r, a, b, c⟩ := h; exact ⟨r, a, b.congr e, c⟩
theorem Both.posL {α : Type} {P : α → Prop} {c : Prop} [Decidable c] {A B f : Nat → Option α} (h : c) (e : Both P A f) : Both P (fun k => if c then A k else B k) f := e.congrL (fun _ => if_pos h)
theorem Both.negL {α : Type} {P : α → Prop} {c : Prop} [Decidable c] {A B f : Nat → Option α} (h : ¬ c) (e : Both P B f) : Both P (fun k => if c then A k else B k) f := e.congrL (fun _ => if_neg h)
theorem Both.posR {α : Type} {P : α → Prop} {c : Prop} [Decidable c] {A B f : Nat → Option α} (h : c) (e : Both P f A) : Both P f (fun k => if c then A k else B k) := e.congrR (fun _ => if_pos h)
theorem Both.negR {α : Type} {P : α → Prop} {c : Prop} [Decidable c] {A B f : Nat → Option α} (h : ¬ c) (e : Both P f B) : Both P f (fun k => if c then A k else B k) := e.congrR (fun _ => if_neg h)
theorem Both.ite {α : Type} {P : α → Prop} {c : Prop} [Decidable c] {A B A' B' : Nat → Option α} (h1 : c → Both P A A') (h2 : ¬ c → Both P B B') : Both P (fun k => if c then A k else B k) (fun k => if c then A' k else B' k) := by
  by_cases h : c
  · exact ((h1 h).posL h).posR h
  · exact ((h2 h).negL h).negR h
theorem Both.stepL {α : Type} {P : α → Prop} {g g' f : Nat → Option α} (e : ∀ k, g (k + 1) = g' k) (h : Both P g' f) : Both P g f := by obtain ⟨r, a, b, c⟩ := h; exact ⟨r, a.step e, b, c⟩
theorem Both.stepR {α : Type} {P : α → Prop} {g f f' : Nat → Option α} (e : ∀ k, f (k + 1) = f' k) (h : Both P g f') : Both P g f := by obtain ⟨r, a, b, c⟩ := h; exact ⟨r, a, b.step e, c⟩
theorem Both.bindL {α β : Type} {P : β → Prop} {g : Nat → Option α} {F : Nat → α → Option β} {f : Nat → Option β} {a : α} (h : Ev g a) (e : Both P (fun k => F k a) f) : Both P (fun k => (g k).bind (F k)) f := by obtain ⟨r, x, y, c⟩ := e; exact ⟨r, Ev.bind h x, y, c⟩
theorem Both.bindR {α β : Type} {P : β → Prop} {g : Nat → Option α} {F : Nat → α → Option β} {f : Nat → Option β} {a : α} (h : Ev g a) (e : Both P f (fun k => F k a)) : Both P f (fun k => (g k).bind (F k)) := by obtain ⟨r, x, y, c⟩ := e; exact ⟨r, x, Ev.bind h y, c⟩
theorem Both.bindEL {α β : Type} {P : β → Prop} {g : Option α} {F : Nat → α → Option β} {f : Nat → Option β} {a : α} (h : g = some a) (e : Both P (fun k => F k a) f) : Both P (fun k => g.bind (F k)) f := by subst h; exact e
theorem w1 (i : Nat) (h : i < 4611686018427387904) : wrap64 ((i : Int) + 1) = ((i + 1 : Nat) : Int) := by unfold wrap64; omega
theorem wrap_id (x : Int) (h0 : -9223372036854775808 ≤ x) (h1 : x ≤ 9223372036854775807) : wrap64 x = x := by unfold wrap64; omega
theorem rd_nat (l : List Int) (i : Nat) (h : i < l.length) : rd l (i : Int) = l[i] := by unfold rd; simp [List.getD, h]
def bitM (x : Int) (i : Nat) : Bool := Go.bits .and .i64 (shr .i64 x (i : Int)) 1 == 1
def modelM (n : Nat) (x : Int) : List Bool := (List.range n).map (fun i => bitM x i)
def GoodK (v m : Int) : Bool := In v 0 65535 && In m 0 65535 && (Go.bits .and .i64 v m == 0)
def GoodS (lo hi : Int) : Bool := In lo 0 65535 && In hi 0 65535 && decide (lo ≤ hi)
def JoinK (a b c d : Int) : Int × Int := (Go.bits .andNot .i64 a (Go.bits .or .i64 (Go.bits .or .i64 b d) (Go.bits .xor .i64 a c)), Go.bits .or .i64 (Go.bits .or .i64 b d) (Go.bits .xor .i64 a c))
def JoinS (a b c d : Int) : Int × Int := (mn a c, mx b d)
def MeetS (a b c d : Int) : Int × Int × Bool := if mx a c > mn b d then (0, 0, false) else (mx a c, mn b d, true)
def LessS (a b c d : Int) : Int × Int × Int × Int × Bool := if a ≥ d then (0, 0, 0, 0, false) else (a, mn b (wrap64 (d - 1)), mx c (wrap64 (a + 1)), d, true)
theorem Stepb_nat (l : List S51) (i : Nat) (h : i < l.length) : rd_T51 l (i : Int) = l[i] := by unfold rd_T51; simp [List.getD, h]
def deposit (m : Nat) : Nat → Nat → Nat → Nat → Nat
  | 0, _, _, out => out
  | d + 1, j, n, out => if m.testBit j = true then deposit m d (j + 1) (n / 2) (out + n % 2 * 2 ^ j) else deposit m d (j + 1) n out
theorem bits_word (x : Int) : Go.bits .and .i64 x 65535 = x % 65536 := by
  show IntKind.i64.wrap (((BitVec.ofInt 64 x) &&& (BitVec.ofInt 64 65535)).toNat : Int) = _
  rw [BitVec.toNat_and, BitVec.toNat_ofInt, show (BitVec.ofInt 64 65535).toNat = 2 ^ 16 - 1 by decide, Nat.and_two_pow_sub_one_eq_mod]
  generalize h : (x % ((2 ^ 64 : Nat) : Int)).toNat = n
  rw [wrap_i64_nat _ (by omega)]
  omega
theorem wrap_i64 (y : Int) : IntKind.i64.wrap y = wrap64 y := by
  rw [IntKind.wrap_i64]; unfold wrap64; omega
theorem shl_nat (x : Int) (n : Nat) (h : n ≤ 60) : shl .i64 x (n : Int) = wrap64 (x * ((2 ^ n : Nat) : Int)) := by
  unfold shl
  have e : min (n : Int).toNat IntKind.i64.bits = n := by
    show min (n : Int).toNat 64 = n
    omega
  rw [e, Int.natCast_pow]
  exact wrap_i64 _
theorem shr_nat (x : Int) (n : Nat) (h : n ≤ 60) : shr .i64 x (n : Int) = x / ((2 ^ n : Nat) : Int) := by
  unfold shr
  have e : min (n : Int).toNat IntKind.i64.bits = n := by
    show min (n : Int).toNat 64 = n
    omega
  rw [e, Int.natCast_pow]; rfl
theorem mul_word {a b : Int} (h0 : 0 ≤ a) (h1 : a ≤ 65535) (h2 : 0 ≤ b) (h3 : b ≤ 65535) : 0 ≤ a * b ∧ a * b ≤ 4294836225 := ⟨Int.mul_nonneg h0 h2, Int.mul_le_mul h1 h3 h2 (by omega)⟩
theorem impl_WordOf_eq (x : Int) : impl_WordOf.f x = some (x % 65536) := by unfold impl_WordOf.f; rw [bits_word]
def EndsM (x y : Int) : Int × Int := if x / 65536 = y / 65536 then (x % 65536, y % 65536) else (0, 65535)
def mayN (v m x : Nat) : Nat := if x = 1 then v ||| m else andn 65535 v
def allIn (lo hi : Int) (l : List Int) : Bool := l.all fun x => In x lo hi
def rangeP (s0 L : Int) : Int × Int := if L = 111 then (1, 10) else if L = 100 ∨ L = 115 then (0, 5) else if L = 116 then (1, 19) else if s0 = 4 then (256, 65535) else if s0 = 5 then (0, 7) else (0, 255)
def vres (s0 s1 s2 s3 s4 s5 : Int) : List Int → Int → Int → Int → Int → Int → Bool
  | [], r1, r2, r3, r4, r5 => In s0 1 11 && ((0 : Int) == 0 && (r1 == 0 && (r2 == 0 && (r3 == 0 && (r4 == 0 && (r5 == 0))))))
  | L :: Ls, r1, r2, r3, r4, r5 => In (impl_Step_valid.fld L s1 s2 s3 s4 s5) (rangeP s0 L).1 (rangeP s0 L).2 && vres s0 s1 s2 s3 s4 s5 Ls (if L = 111 then 0 else r1) (if L = 111 then r2 else if L = 100 then 0 else r2) (if L = 111 then r3 else if L = 100 then r3 else if L = 115 then 0 else r3) (if L = 111 then r4 else if L = 100 then r4 else if L = 115 then r4 else if L = 105 then 0 else r4) (if L = 111 then r5 else if L = 100 then r5 else if L = 115 then r5 else if L = 105 then r5 else 0)
def letP (s0 : Int) : List Int := if s0 = 1 then [111, 100, 115] else if s0 = 2 then [111, 100, 105] else if s0 = 3 ∨ s0 = 4 ∨ s0 = 6 ∨ s0 = 7 then [100, 105] else if s0 = 5 then [100, 115, 105] else if s0 = 8 then [116] else if s0 = 9 ∨ s0 = 10 then [100, 115, 116] else []
def VS (s0 s1 s2 s3 s4 s5 : Int) : Bool := vres s0 s1 s2 s3 s4 s5 (letP s0) s1 s2 s3 s4 s5
def VK (s0 s1 s2 s3 s4 s5 : Int) : Bool :=
  if s0 = 1 then In s1 1 10 && In s2 0 5 && In s3 0 5 && (s4 == 0) && (s5 == 0)
  else if s0 = 2 then In s1 1 10 && In s2 0 5 && (s3 == 0) && In s4 0 255 && (s5 == 0)
  else if s0 = 3 ∨ s0 = 6 ∨ s0 = 7 then (s1 == 0) && In s2 0 5 && (s3 == 0) && In s4 0 255 && (s5 == 0)
  else if s0 = 4 then (s1 == 0) && In s2 0 5 && (s3 == 0) && In s4 256 65535 && (s5 == 0)
  else if s0 = 5 then (s1 == 0) && In s2 0 5 && In s3 0 5 && In s4 0 7 && (s5 == 0)
  else if s0 = 8 then (s1 == 0) && (s2 == 0) && (s3 == 0) && (s4 == 0) && In s5 1 19
  else if s0 = 9 ∨ s0 = 10 then (s1 == 0) && In s2 0 5 && In s3 0 5 && (s4 == 0) && In s5 1 19
  else if s0 = 11 then (s1 == 0) && (s2 == 0) && (s3 == 0) && (s4 == 0) && (s5 == 0)
  else false
theorem VS_eq (s0 s1 s2 s3 s4 s5 : Int) : VS s0 s1 s2 s3 s4 s5 = VK s0 s1 s2 s3 s4 s5 := by
  have big : s0 ≠ 1 → s0 ≠ 2 → s0 ≠ 3 → s0 ≠ 4 → s0 ≠ 5 → s0 ≠ 6 → s0 ≠ 7 → s0 ≠ 8 → s0 ≠ 9 → s0 ≠ 10 → s0 ≠ 11 → In s0 1 11 = false := by
    intros; rw [In_false]; omega
  unfold VS
  by_cases h1 : s0 = 1
  · subst h1; simp [VK, letP, vres, rangeP, impl_Step_valid.fld, In, Bool.and_assoc]
  by_cases h2 : s0 = 2
  · subst h2; simp [VK, letP, vres, rangeP, impl_Step_valid.fld, In, Bool.and_assoc, Bool.and_comm, Bool.and_left_comm]
  by_cases h3 : s0 = 3
  · subst h3; simp [VK, letP, vres, rangeP, impl_Step_valid.fld, In, Bool.and_assoc, Bool.and_comm, Bool.and_left_comm]
  by_cases h4 : s0 = 4
  · subst h4; simp [VK, letP, vres, rangeP, impl_Step_valid.fld, In, Bool.and_assoc, Bool.and_comm, Bool.and_left_comm]
  by_cases h5 : s0 = 5
  · subst h5; simp [VK, letP, vres, rangeP, impl_Step_valid.fld, In, Bool.and_assoc, Bool.and_comm, Bool.and_left_comm]
  by_cases h6 : s0 = 6
  · subst h6; simp [VK, letP, vres, rangeP, impl_Step_valid.fld, In, Bool.and_assoc, Bool.and_comm, Bool.and_left_comm]
  by_cases h7 : s0 = 7
  · subst h7; simp [VK, letP, vres, rangeP, impl_Step_valid.fld, In, Bool.and_assoc, Bool.and_comm, Bool.and_left_comm]
  by_cases h8 : s0 = 8
  · subst h8; simp [VK, letP, vres, rangeP, impl_Step_valid.fld, In, Bool.and_assoc, Bool.and_comm, Bool.and_left_comm]
  by_cases h9 : s0 = 9
  · subst h9; simp [VK, letP, vres, rangeP, impl_Step_valid.fld, In, Bool.and_assoc, Bool.and_comm, Bool.and_left_comm]
  by_cases h10 : s0 = 10
  · subst h10; simp [VK, letP, vres, rangeP, impl_Step_valid.fld, In, Bool.and_assoc, Bool.and_comm, Bool.and_left_comm]
  by_cases h11 : s0 = 11
  · subst h11; simp [VK, letP, vres, rangeP, impl_Step_valid.fld, In, Bool.and_assoc, Bool.and_comm, Bool.and_left_comm]
  · have := big h1 h2 h3 h4 h5 h6 h7 h8 h9 h10 h11
    simp [VK, letP, vres, h1, h2, h3, h4, h5, h6, h7, h8, h9, h10, h11, this]
theorem ranges_ev (s0 s1 s2 s3 s4 s5 L : Int) : Ev (fun k => impl_Step_ranges.f k s0 s1 s2 s3 s4 s5 L) (rangeP s0 L) := by
  have j : ∀ x : Bool, (x = true ↔ (L = 100 ∨ L = 115)) → L ≠ 111 → Ev (fun k => impl_Step_ranges.j0 k L x s0 s1 s2 s3 s4 s5) (rangeP s0 L) := by
    intro x hx h1
    unfold rangeP
    rw [if_neg h1]
    refine Ev.step (fun k => impl_Step_ranges.j0.eq_2 ..) ?_
    by_cases h : x = true
    · refine Ev.pos h ?_; rw [if_pos (hx.1 h)]; exact Ev.now _
    · rw [if_neg (fun h' => h (hx.2 h'))]
      refine Ev.neg h ?_
      by_cases h2 : L = 116
      · refine Ev.pos h2 ?_; rw [if_pos h2]; exact Ev.now _
      refine Ev.neg h2 ?_; rw [if_neg h2]
      by_cases h3 : s0 = 4
      · refine Ev.pos h3 ?_; rw [if_pos h3]; exact Ev.now _
      refine Ev.neg h3 ?_; rw [if_neg h3]
      by_cases h4 : s0 = 5
      · refine Ev.pos h4 ?_; rw [if_pos h4]; exact Ev.now _
      refine Ev.neg h4 ?_; rw [if_neg h4]; exact Ev.now _
  unfold impl_Step_ranges.f
  by_cases h1 : L = 111
  · unfold rangeP; refine Ev.pos h1 ?_; rw [if_pos h1]; exact Ev.now _
  refine Ev.neg h1 ?_
  by_cases h2 : L = 100
  · exact Ev.pos h2 (j true (by simp [h2]) h1)
  · exact Ev.neg h2 (j (L == 115) (by simp [h2]) h1)
theorem valid_loop (s0 s1 s2 s3 s4 s5 : Int) (b : ByteArray) (hb : b.size ≤ 100) : ∀ (Ls : List Int) (i : Nat) (r1 r2 r3 r4 r5 : Int), b.size = i + Ls.length → (∀ j (h : j < Ls.length), bt b ((i + j : Nat) : Int) = Ls[j]) → Ev (fun k => impl_Step_valid.l0 k s0 s1 s2 s3 s4 s5 b r1 r2 r3 r4 r5 (i : Int)) (vres s0 s1 s2 s3 s4 s5 Ls r1 r2 r3 r4 r5)
  | [], i, r1, r2, r3, r4, r5, h, _ => by
    have h : b.size = i := h
    refine Ev.step (fun k => impl_Step_valid.l0.eq_2 ..) (Ev.neg (by omega) (Ev.bindE (impl_in_eq ..) ?_))
    unfold vres
    by_cases hk : In s0 1 11 = true
    · refine Ev.pos hk ?_; rw [hk]; exact Ev.now _
    · refine Ev.neg hk ?_; rw [Bool.eq_false_iff.mpr hk]; exact Ev.now _
  | L :: Ls, i, r1, r2, r3, r4, r5, h, hL => by
    have h : b.size = i + (Ls.length + 1) := h
    have e : bt b (i : Int) = L := hL 0 (by simp)
    refine Ev.step (fun k => impl_Step_valid.l0.eq_2 ..) (Ev.pos (by omega) (Ev.pos (by omega) ?_))
    rw [e]
    refine Ev.bind (ranges_ev s0 s1 s2 s3 s4 s5 L) (Ev.bindE (impl_in_eq ..) ?_)
    unfold vres
    by_cases hk : In (impl_Step_valid.fld L s1 s2 s3 s4 s5) (rangeP s0 L).1 (rangeP s0 L).2 = true
    · refine Ev.pos hk ?_
      rw [hk, w1 i (by omega), Bool.true_and]
      refine valid_loop s0 s1 s2 s3 s4 s5 b hb Ls (i + 1) _ _ _ _ _ (by omega) (fun j hj => ?_)
      have := hL (j + 1) (by simp; omega)
      rw [show i + 1 + j = i + (j + 1) by omega, this]; rfl
    · refine Ev.neg hk ?_; rw [Bool.eq_false_iff.mpr hk]; exact Ev.now _
def strP (s0 : Int) : ByteArray := if s0 = 1 then ⟨#[111, 100, 115]⟩ else if s0 = 2 then ⟨#[111, 100, 105]⟩ else if s0 = 3 ∨ s0 = 4 ∨ s0 = 6 ∨ s0 = 7 then ⟨#[100, 105]⟩ else if s0 = 5 then ⟨#[100, 115, 105]⟩ else if s0 = 8 then ⟨#[116]⟩ else if s0 = 9 ∨ s0 = 10 then ⟨#[100, 115, 116]⟩ else ⟨#[]⟩
theorem fields_ev (s0 : Int) : Ev (fun k => impl_fields.f k s0) (strP s0) := by
  have j : ∀ x : Bool, (x = true ↔ (s0 = 3 ∨ s0 = 4 ∨ s0 = 6 ∨ s0 = 7)) → s0 ≠ 1 → s0 ≠ 2 → Ev (fun k => impl_fields.j0 k s0 x) (strP s0) := by
    intro x hx h1 h2
    unfold strP
    rw [if_neg h1, if_neg h2]
    refine Ev.step (fun k => impl_fields.j0.eq_2 ..) ?_
    by_cases h : x = true
    · refine Ev.pos h ?_; rw [if_pos (hx.1 h)]; exact Ev.now _
    refine Ev.neg h ?_; rw [if_neg (fun h' => h (hx.2 h'))]
    by_cases h5 : s0 = 5
    · refine Ev.pos h5 ?_; rw [if_pos h5]; exact Ev.now _
    refine Ev.neg h5 ?_; rw [if_neg h5]
    by_cases h8 : s0 = 8
    · refine Ev.pos h8 ?_; rw [if_pos h8]; exact Ev.now _
    refine Ev.neg h8 ?_; rw [if_neg h8]
    by_cases h9 : s0 = 9
    · refine Ev.pos h9 ?_; rw [if_pos (Or.inl h9)]; exact Ev.now _
    refine Ev.neg h9 ?_
    by_cases h10 : s0 = 10
    · refine Ev.pos h10 ?_; rw [if_pos (Or.inr h10)]; exact Ev.now _
    refine Ev.neg h10 ?_; rw [if_neg (by omega)]; exact Ev.now _
  unfold impl_fields.f
  by_cases h1 : s0 = 1
  · unfold strP; refine Ev.pos h1 ?_; rw [if_pos h1]; exact Ev.now _
  refine Ev.neg h1 ?_
  by_cases h2 : s0 = 2
  · unfold strP; refine Ev.pos h2 ?_; rw [if_neg h1, if_pos h2]; exact Ev.now _
  refine Ev.neg h2 ?_
  by_cases h3 : s0 = 3
  · exact Ev.pos h3 (j _ (by simp [h3]) h1 h2)
  refine Ev.neg h3 ?_
  by_cases h4 : s0 = 4
  · exact Ev.pos h4 (j _ (by simp [h4]) h1 h2)
  refine Ev.neg h4 ?_
  by_cases h6 : s0 = 6
  · exact Ev.pos h6 (j _ (by simp [h6]) h1 h2)
  exact Ev.neg h6 (j _ (by simp [h3, h4, h6]) h1 h2)
theorem str_let (s0 : Int) : (strP s0).size = (letP s0).length ∧ (strP s0).size ≤ 100 ∧ ∀ j (h : j < (letP s0).length), bt (strP s0) ((0 + j : Nat) : Int) = (letP s0)[j] := by
  have c : ∀ (b : ByteArray) (l : List Int), b.size = l.length → b.size ≤ 100 → (∀ j (h : j < l.length), bt b ((0 + j : Nat) : Int) = l[j]) → b.size = l.length ∧ b.size ≤ 100 ∧ ∀ j (h : j < l.length), bt b ((0 + j : Nat) : Int) = l[j] := fun _ _ a b c => ⟨a, b, c⟩
  unfold strP letP
  by_cases h1 : s0 = 1
  · simp only [h1, if_true]; exact c _ _ rfl (by decide) (by decide)
  simp only [h1, if_false]
  by_cases h2 : s0 = 2
  · simp only [h2, if_true]; exact c _ _ rfl (by decide) (by decide)
  simp only [h2, if_false]
  by_cases h3 : s0 = 3 ∨ s0 = 4 ∨ s0 = 6 ∨ s0 = 7
  · simp only [h3, if_true]; exact c _ _ rfl (by decide) (by decide)
  simp only [h3, if_false]
  by_cases h5 : s0 = 5
  · simp only [h5, if_true]; exact c _ _ rfl (by decide) (by decide)
  simp only [h5, if_false]
  by_cases h8 : s0 = 8
  · simp only [h8, if_true]; exact c _ _ rfl (by decide) (by decide)
  simp only [h8, if_false]
  by_cases h9 : s0 = 9 ∨ s0 = 10
  · simp only [h9, if_true]; exact c _ _ rfl (by decide) (by decide)
  simp only [h9, if_false]
  exact c _ _ rfl (by decide) (by decide)
theorem valid_ev (s0 s1 s2 s3 s4 s5 : Int) : Ev (fun k => impl_Step_valid.f k s0 s1 s2 s3 s4 s5) (VK s0 s1 s2 s3 s4 s5) := by
  obtain ⟨h1, h2, h3⟩ := str_let s0
  rw [← VS_eq]
  unfold impl_Step_valid.f VS
  exact Ev.bind (fields_ev s0) (valid_loop s0 s1 s2 s3 s4 s5 (strP s0) h2 (letP s0) 0 _ _ _ _ _ (by omega) h3)
theorem spec_l2Reg_eq (a : Int) : spec_l2Reg.f a = some (In a 0 5) := by unfold spec_l2Reg.f; rw [spec_l1In_eq]; rfl
def ZeroB (s1 s2 s3 s4 s5 : Int) (a b c d e : Bool) : Bool := (a || s1 == 0) && (b || s2 == 0) && (c || s3 == 0) && (d || s4 == 0) && (e || s5 == 0)
theorem spec_l2Zero_eq (s0 s1 s2 s3 s4 s5 : Int) (a b c d e : Bool) : spec_l2Zero.f s0 s1 s2 s3 s4 s5 a b c d e = some (ZeroB s1 s2 s3 s4 s5 a b c d e) := by
  unfold spec_l2Zero.f ZeroB
  by_cases h1 : s1 = 0 <;> by_cases h2 : s2 = 0 <;> by_cases h3 : s3 = 0 <;> by_cases h4 : s4 = 0 <;> simp only [h1, h2, h3, h4] <;> cases a <;> cases b <;> cases c <;> cases d <;> cases e <;> simp [*]
theorem l2Step_ev (s0 s1 s2 s3 s4 s5 : Int) : Ev (fun k => spec_l2Step.f k s0 s1 s2 s3 s4 s5) (VK s0 s1 s2 s3 s4 s5) := by
  have z : ∀ a b c d e, ((spec_l2Zero.f s0 s1 s2 s3 s4 s5 a b c d e).bind fun t => some t) = some (ZeroB s1 s2 s3 s4 s5 a b c d e) := fun a b c d e => by rw [spec_l2Zero_eq]; rfl
  have r3 : (s3 == 0) = true → In s3 0 5 = true := fun h => by rw [beq_iff_eq] at h; rw [h]; decide
  have r2 : (s2 == 0) = true → In s2 0 5 = true := fun h => by rw [beq_iff_eq] at h; rw [h]; decide
  have j : ∀ x : Bool, (x = !(In s2 0 5 && In s3 0 5)) → Ev (fun k => spec_l2Step.j0 k (In s1 1 10) (In s5 1 19) x s0 s1 s2 s3 s4 s5) (VK s0 s1 s2 s3 s4 s5) := by
    intro x hx
    refine Ev.step (fun k => spec_l2Step.j0.eq_2 ..) ?_
    by_cases hr : (In s2 0 5 && In s3 0 5) = true
    · refine Ev.neg (by rw [hx, hr]; simp) ?_
      obtain ⟨g2, g3⟩ := (Bool.and_eq_true _ _).mp hr
      unfold VK
      by_cases h1 : s0 = 1
      · refine Ev.pos h1 ?_; rw [if_pos h1]
        by_cases ho : In s1 1 10 = true
        · refine Ev.pos ho (Ev.congr (fun k => z ..) (Ev.at_ (Ev.now _) ?_)); rw [ho, g2, g3]; simp [ZeroB]
        · refine Ev.neg ho (Ev.at_ (Ev.now _) ?_); rw [Bool.eq_false_iff.mpr ho]; rfl
      refine Ev.neg h1 ?_; rw [if_neg h1]
      by_cases h2 : s0 = 2
      · refine Ev.pos h2 ?_; rw [if_pos h2]
        by_cases ho : In s1 1 10 = true
        · refine Ev.pos ho (Ev.bindE (spec_l1In_eq ..) ?_)
          by_cases hi : In s4 0 255 = true
          · refine Ev.pos hi (Ev.congr (fun k => z ..) (Ev.at_ (Ev.now _) ?_)); rw [ho, g2, hi]; simp [ZeroB]
          · refine Ev.neg hi (Ev.at_ (Ev.now _) ?_); rw [Bool.eq_false_iff.mpr hi]; simp
        · refine Ev.neg ho (Ev.at_ (Ev.now _) ?_); rw [Bool.eq_false_iff.mpr ho]; rfl
      refine Ev.neg h2 ?_; rw [if_neg h2]
      by_cases h3 : s0 = 3
      · rw [if_pos (Or.inl h3)]; refine Ev.pos h3 (Ev.bindE (spec_l1In_eq ..) ?_)
        by_cases hi : In s4 0 255 = true
        · refine Ev.pos hi (Ev.congr (fun k => z ..) (Ev.at_ (Ev.now _) ?_)); rw [g2, hi]; simp [ZeroB]
        · refine Ev.neg hi (Ev.at_ (Ev.now _) ?_); rw [Bool.eq_false_iff.mpr hi]; simp
      refine Ev.neg h3 ?_
      by_cases h4 : s0 = 4
      · rw [if_neg (by omega), if_pos h4]; refine Ev.pos h4 (Ev.bindE (spec_l1In_eq ..) ?_)
        by_cases hi : In s4 256 65535 = true
        · refine Ev.pos hi (Ev.congr (fun k => z ..) (Ev.at_ (Ev.now _) ?_)); rw [g2, hi]; simp [ZeroB]
        · refine Ev.neg hi (Ev.at_ (Ev.now _) ?_); rw [Bool.eq_false_iff.mpr hi]; simp
      refine Ev.neg h4 ?_
      by_cases h5 : s0 = 5
      · rw [if_neg (by omega), if_neg h4, if_pos h5]; refine Ev.pos h5 (Ev.bindE (spec_l1In_eq ..) ?_)
        by_cases hi : In s4 0 7 = true
        · refine Ev.pos hi (Ev.congr (fun k => z ..) (Ev.at_ (Ev.now _) ?_)); rw [g2, g3, hi]; simp [ZeroB]
        · refine Ev.neg hi (Ev.at_ (Ev.now _) ?_); rw [Bool.eq_false_iff.mpr hi]; simp
      refine Ev.neg h5 ?_
      have j1 : ∀ x : Bool, (x = true ↔ (s0 = 6 ∨ s0 = 7)) → Ev (fun k => spec_l2Step.j1 k (In s5 1 19) s0 x s0 s1 s2 s3 s4 s5) (if s0 = 3 ∨ s0 = 6 ∨ s0 = 7 then (s1 == 0) && In s2 0 5 && (s3 == 0) && In s4 0 255 && (s5 == 0)
          else if s0 = 4 then (s1 == 0) && In s2 0 5 && (s3 == 0) && In s4 256 65535 && (s5 == 0)
          else if s0 = 5 then (s1 == 0) && In s2 0 5 && In s3 0 5 && In s4 0 7 && (s5 == 0)
          else if s0 = 8 then (s1 == 0) && (s2 == 0) && (s3 == 0) && (s4 == 0) && In s5 1 19
          else if s0 = 9 ∨ s0 = 10 then (s1 == 0) && In s2 0 5 && In s3 0 5 && (s4 == 0) && In s5 1 19
          else if s0 = 11 then (s1 == 0) && (s2 == 0) && (s3 == 0) && (s4 == 0) && (s5 == 0)
          else false) := by
        intro x hx
        refine Ev.step (fun k => spec_l2Step.j1.eq_2 ..) ?_
        by_cases h67 : s0 = 6 ∨ s0 = 7
        · rw [if_pos (Or.inr h67)]; refine Ev.pos (hx.2 h67) (Ev.bindE (spec_l1In_eq ..) ?_)
          by_cases hi : In s4 0 255 = true
          · refine Ev.pos hi (Ev.congr (fun k => z ..) (Ev.at_ (Ev.now _) ?_)); rw [g2, hi]; simp [ZeroB]
          · refine Ev.neg hi (Ev.at_ (Ev.now _) ?_); rw [Bool.eq_false_iff.mpr hi]; simp
        rw [if_neg (show ¬ (s0 = 3 ∨ s0 = 6 ∨ s0 = 7) by omega), if_neg h4, if_neg h5]
        refine Ev.neg (fun h => h67 (hx.1 h)) ?_
        by_cases h8 : s0 = 8
        · refine Ev.pos h8 ?_; rw [if_pos h8]
          by_cases ht : In s5 1 19 = true
          · refine Ev.pos ht (Ev.congr (fun k => z ..) (Ev.at_ (Ev.now _) ?_)); rw [ht]; simp [ZeroB]
          · refine Ev.neg ht (Ev.at_ (Ev.now _) ?_); rw [Bool.eq_false_iff.mpr ht]; simp
        refine Ev.neg h8 ?_; rw [if_neg h8]
        have j2 : ∀ x : Bool, (x = true ↔ (s0 = 9 ∨ s0 = 10)) → Ev (fun k => spec_l2Step.j2 k (In s5 1 19) x s0 s1 s2 s3 s4 s5) (if s0 = 9 ∨ s0 = 10 then (s1 == 0) && In s2 0 5 && In s3 0 5 && (s4 == 0) && In s5 1 19
            else if s0 = 11 then (s1 == 0) && (s2 == 0) && (s3 == 0) && (s4 == 0) && (s5 == 0)
            else false) := by
          intro x hx
          refine Ev.step (fun k => spec_l2Step.j2.eq_2 ..) ?_
          by_cases h9 : s0 = 9 ∨ s0 = 10
          · refine Ev.pos (hx.2 h9) ?_; rw [if_pos h9]
            by_cases ht : In s5 1 19 = true
            · refine Ev.pos ht (Ev.congr (fun k => z ..) (Ev.at_ (Ev.now _) ?_)); rw [ht, g2, g3]; simp [ZeroB]
            · refine Ev.neg ht (Ev.at_ (Ev.now _) ?_); rw [Bool.eq_false_iff.mpr ht]; simp
          refine Ev.neg (fun h => h9 (hx.1 h)) ?_; rw [if_neg h9]
          by_cases h11 : s0 = 11
          · refine Ev.pos h11 ?_; rw [if_pos h11]; refine Ev.congr (fun k => z ..) (Ev.at_ (Ev.now _) ?_); simp [ZeroB]
          · refine Ev.neg h11 ?_; rw [if_neg h11]; exact Ev.now _
        by_cases h9 : s0 = 9
        · exact Ev.pos h9 (j2 _ (by simp [h9]))
        · exact Ev.neg h9 (j2 _ (by simp [h9]))
      by_cases h6 : s0 = 6
      · exact Ev.pos h6 (j1 _ (by simp [h6]))
      · exact Ev.neg h6 (j1 _ (by simp [h6]))
    · refine Ev.pos (by rw [hx, Bool.eq_false_iff.mpr hr]; rfl) (Ev.at_ (Ev.now _) ?_)
      have hr := Bool.eq_false_iff.mpr hr
      have hf : ∀ a b c d e : Bool, (a && (In s2 0 5) && (In s3 0 5) && d && e) = false := fun a b c d e => by rw [Bool.and_assoc a, hr]; simp
      unfold VK
      have q3 : In s3 0 5 = false → (s3 == 0) = false := fun h => by cases h' : (s3 == 0) with | false => rfl | true => rw [r3 h'] at h; cases h
      have q2 : In s2 0 5 = false → (s2 == 0) = false := fun h => by cases h' : (s2 == 0) with | false => rfl | true => rw [r2 h'] at h; cases h
      rcases (Bool.and_eq_false_iff).mp hr with h | h
      · simp [h, q2 h]
      · simp [h, q3 h]
  unfold spec_l2Step.f
  refine Ev.bindE (spec_l1In_eq ..) (Ev.bindE (spec_l1In_eq ..) (Ev.bindE (spec_l2Reg_eq ..) ?_))
  by_cases h2 : In s2 0 5 = true
  · exact Ev.pos h2 (Ev.bindE (spec_l2Reg_eq ..) (j _ (by rw [h2]; rfl)))
  · exact Ev.neg h2 (j _ (by rw [Bool.eq_false_iff.mpr h2]; rfl))
def stepOk (n : Nat) (i : Nat) (s : S51) : Bool := VK s.f0 s.f1 s.f2 s.f3 s.f4 s.f5 && !(decide (s.f5 > 0) && decide (wrap64 (wrap64 ((i : Int) + s.f5) + 1) ≥ (n : Int)))
def allOk (n : Nat) (l : List S51) : Nat → Nat → Bool
  | 0, _ => true
  | d + 1, i => stepOk n i (l.getD i z51) && allOk n l d (i + 1)
def lastOk (l : List S51) : Bool := In (l.length : Int) 1 20 && ((rd_T51 l ((l.length : Int) - 1)).f0 == 11)
def GoodP (l : List S51) : Bool := allOk l.length l l.length 0 && lastOk l
theorem Stepb_getD (l : List S51) (i : Nat) (h : i < l.length) : l.getD i z51 = l[i] := by simp [List.getD, h]
theorem VK_jump {s0 s1 s2 s3 s4 s5 : Int} (h : VK s0 s1 s2 s3 s4 s5 = true) : ((s0 = 8 ∨ s0 = 9 ∨ s0 = 10) → 1 ≤ s5 ∧ s5 ≤ 19) ∧ (¬ (s0 = 8 ∨ s0 = 9 ∨ s0 = 10) → s5 = 0) := by
  unfold VK at h
  refine ⟨fun hj => ?_, fun hj => ?_⟩
  · rw [if_neg (by omega), if_neg (by omega), if_neg (by omega), if_neg (by omega), if_neg (by omega)] at h
    by_cases h8 : s0 = 8
    · rw [if_pos h8] at h; simp only [Bool.and_eq_true] at h; exact In_true.1 h.2
    · rw [if_neg h8, if_pos (by omega)] at h; simp only [Bool.and_eq_true] at h; exact In_true.1 h.2
  · by_cases h1 : s0 = 1
    · rw [if_pos h1] at h; simp only [Bool.and_eq_true, beq_iff_eq] at h; exact h.2
    rw [if_neg h1] at h
    by_cases h2 : s0 = 2
    · rw [if_pos h2] at h; simp only [Bool.and_eq_true, beq_iff_eq] at h; exact h.2
    rw [if_neg h2] at h
    by_cases h3 : s0 = 3 ∨ s0 = 6 ∨ s0 = 7
    · rw [if_pos h3] at h; simp only [Bool.and_eq_true, beq_iff_eq] at h; exact h.2
    rw [if_neg h3] at h
    by_cases h4 : s0 = 4
    · rw [if_pos h4] at h; simp only [Bool.and_eq_true, beq_iff_eq] at h; exact h.2
    rw [if_neg h4] at h
    by_cases h5 : s0 = 5
    · rw [if_pos h5] at h; simp only [Bool.and_eq_true, beq_iff_eq] at h; exact h.2
    rw [if_neg h5, if_neg (by omega), if_neg (by omega)] at h
    by_cases h11 : s0 = 11
    · rw [if_pos h11] at h; simp only [Bool.and_eq_true, beq_iff_eq] at h; exact h.2
    · rw [if_neg h11] at h; cases h
theorem jumps_ev (s0 s1 s2 s3 s4 s5 : Int) : impl_Step_jumps.f s0 s1 s2 s3 s4 s5 = some (decide (s0 = 8 ∨ s0 = 9 ∨ s0 = 10)) := by
  unfold impl_Step_jumps.f
  by_cases h8 : s0 = 8
  · rw [if_pos h8]; simp [h8]
  rw [if_neg h8]
  by_cases h9 : s0 = 9
  · rw [if_pos h9]; simp [h9]
  rw [if_neg h9]
  by_cases h10 : s0 = 10 <;> simp [h8, h9, h10]
theorem goodP_spec_loop (l : List S51) (hl : l.length ≤ 1099511627776) : ∀ (d i : Nat), i + d = l.length → Ev (fun k => spec_GoodProgram.l0 k l l (l.length : Int) (i : Int)) (allOk l.length l d i && lastOk l)
  | 0, i, h => by
    refine Ev.step (fun k => spec_GoodProgram.l0.eq_2 ..) (Ev.neg (by omega) (Ev.bindE (spec_l1In_eq ..) ?_))
    unfold allOk lastOk
    by_cases hk : In (l.length : Int) 1 20 = true
    · have := In_true.1 hk
      refine Ev.pos hk ?_
      rw [wrap_id _ (by omega) (by omega)]
      refine Ev.pos (by omega) (Ev.pos (by omega) (Ev.at_ (Ev.now _) ?_))
      rw [hk]; simp
    · refine Ev.neg hk (Ev.at_ (Ev.now _) ?_)
      rw [Bool.eq_false_iff.mpr hk]; simp
  | d + 1, i, h => by
    have ih := goodP_spec_loop l hl d (i + 1) (by omega)
    refine Ev.step (fun k => spec_GoodProgram.l0.eq_2 ..) (Ev.pos (by omega) (Ev.pos (by omega) (Ev.pos (by omega) ?_)))
    unfold allOk stepOk
    rw [Stepb_nat l i (by omega), Stepb_getD l i (by omega), w1 i (by omega)]
    refine Ev.bind (l2Step_ev ..) ?_
    by_cases hv : VK l[i].f0 l[i].f1 l[i].f2 l[i].f3 l[i].f4 l[i].f5 = true
    · refine Ev.pos hv ?_
      rw [hv]
      by_cases hp : l[i].f5 > 0
      · refine Ev.pos hp ?_
        by_cases hg : wrap64 (wrap64 ((i : Int) + l[i].f5) + 1) ≥ (l.length : Int)
        · refine Ev.pos hg (Ev.at_ (Ev.now _) ?_)
          rw [decide_eq_true hp, decide_eq_true hg]; simp
        · refine Ev.neg hg (Ev.at_ ih ?_)
          rw [decide_eq_true hp, decide_eq_false hg]; simp
      · refine Ev.neg hp (Ev.at_ ih ?_)
        rw [decide_eq_false hp]; simp
    · refine Ev.neg hv (Ev.at_ (Ev.now _) ?_)
      rw [Bool.eq_false_iff.mpr hv]; simp
theorem goodP_impl_loop (l : List S51) (hl : l.length ≤ 1099511627776) : ∀ (d i : Nat), i + d = l.length → Ev (fun k => impl_GoodProgram.l0 k l l (l.length : Int) (i : Int)) (allOk l.length l d i)
  | 0, i, h => Ev.step (fun k => impl_GoodProgram.l0.eq_2 ..) (Ev.neg (by omega) (Ev.now _))
  | d + 1, i, h => by
    have ih := goodP_impl_loop l hl d (i + 1) (by omega)
    refine Ev.step (fun k => impl_GoodProgram.l0.eq_2 ..) (Ev.pos (by omega) (Ev.pos (by omega) (Ev.pos (by omega) ?_)))
    unfold allOk stepOk
    rw [Stepb_nat l i (by omega), Stepb_getD l i (by omega), w1 i (by omega)]
    refine Ev.bind (valid_ev ..) ?_
    by_cases hv : VK l[i].f0 l[i].f1 l[i].f2 l[i].f3 l[i].f4 l[i].f5 = true
    · obtain ⟨j1, j2⟩ := VK_jump hv
      refine Ev.pos hv (Ev.bindE (jumps_ev ..) ?_)
      rw [hv]
      by_cases hj : l[i].f0 = 8 ∨ l[i].f0 = 9 ∨ l[i].f0 = 10
      · have hp : l[i].f5 > 0 := by have := j1 hj; omega
        refine Ev.pos (decide_eq_true hj) ?_
        by_cases hg : wrap64 (wrap64 ((i : Int) + l[i].f5) + 1) ≥ (l.length : Int)
        · refine Ev.pos hg (Ev.at_ (Ev.now _) ?_)
          rw [decide_eq_true hp, decide_eq_true hg]; simp
        · refine Ev.neg hg (Ev.at_ ih ?_)
          rw [decide_eq_true hp, decide_eq_false hg]; simp
      · have hp : ¬ l[i].f5 > 0 := by have := j2 hj; omega
        refine Ev.neg (by rw [decide_eq_false hj]; simp) (Ev.at_ ih ?_)
        rw [decide_eq_false hp]; simp
    · refine Ev.neg hv (Ev.at_ (Ev.now _) ?_)
      rw [Bool.eq_false_iff.mpr hv]; simp
theorem goodP_spec (l : List S51) (hl : l.length ≤ 1099511627776) : Ev (fun k => spec_GoodProgram.f k l) (GoodP l) := goodP_spec_loop l hl l.length 0 (by omega)
theorem goodP_impl (l : List S51) (hl : l.length ≤ 1099511627776) : Ev (fun k => impl_GoodProgram.f k l) (GoodP l) := by
  unfold impl_GoodProgram.f GoodP
  refine Ev.bindE (impl_in_eq ..) ?_
  by_cases hk : In (l.length : Int) 1 20 = true
  · have hk' := In_true.1 hk
    refine Ev.pos hk ?_
    rw [wrap_id _ (by omega) (by omega)]
    refine Ev.pos (by omega) (Ev.pos (by omega) (Ev.step (fun k => impl_GoodProgram.j0.eq_2 ..) ?_))
    unfold lastOk
    rw [hk]
    by_cases h11 : (rd_T51 l ((l.length : Int) - 1)).f0 = 11
    · refine Ev.neg (by rw [h11]; simp) (Ev.at_ (goodP_impl_loop l hl l.length 0 (by omega)) ?_)
      rw [h11]; simp
    · refine Ev.pos (by simp [h11]) (Ev.at_ (Ev.now _) ?_)
      simp [h11]
  · refine Ev.neg hk (Ev.step (fun k => impl_GoodProgram.j0.eq_2 ..) (Ev.pos rfl (Ev.at_ (Ev.now _) ?_)))
    unfold lastOk
    rw [Bool.eq_false_iff.mpr hk]; simp
theorem allOk_at {n : Nat} {l : List S51} : ∀ (d i : Nat), allOk n l d i = true → ∀ j, i ≤ j → j < i + d → stepOk n j (l.getD j z51) = true
  | 0, i, _, j, h1, h2 => by omega
  | d + 1, i, h, j, h1, h2 => by
    unfold allOk at h
    rw [Bool.and_eq_true] at h
    by_cases e : i = j
    · subst e; exact h.1
    · exact allOk_at d (i + 1) h.2 j (by omega) (by omega)
theorem GoodP_at {l : List S51} (h : GoodP l = true) : (1 ≤ l.length ∧ l.length ≤ 20) ∧ ∀ i (hi : i < l.length), ((l[i].f0 = 8 ∨ l[i].f0 = 9 ∨ l[i].f0 = 10) → 1 ≤ l[i].f5 ∧ (i : Int) + l[i].f5 + 1 < l.length) ∧ (l[i].f0 ≠ 11 → (i : Int) + 1 < l.length) := by
  unfold GoodP lastOk at h
  simp only [Bool.and_eq_true, beq_iff_eq] at h
  obtain ⟨h1, h2, h3⟩ := h
  have h2 := In_true.1 h2
  refine ⟨by omega, fun i hi => ?_⟩
  have h4 := allOk_at l.length 0 h1 i (by omega) (by omega)
  rw [Stepb_getD l i hi] at h4
  unfold stepOk at h4
  simp only [Bool.and_eq_true, Bool.not_eq_true', Bool.and_eq_false_iff, decide_eq_false_iff_not] at h4
  obtain ⟨v, h5⟩ := h4
  obtain ⟨j1, _⟩ := VK_jump v
  refine ⟨fun hj => ?_, fun hk => ?_⟩
  · have := j1 hj
    refine ⟨by omega, ?_⟩
    rcases h5 with h5 | h5
    · omega
    · rw [wrap_id ((i : Int) + l[i].f5) (by omega) (by omega), wrap_id _ (by omega) (by omega)] at h5; omega
  · have e : (l.length : Int) - 1 = ((l.length - 1 : Nat) : Int) := by omega
    rw [e, Stepb_nat l (l.length - 1) (by omega)] at h3
    by_cases ei : i = l.length - 1
    · subst ei; exact absurd h3 hk
    · omega
theorem nexts_eq (l : List S51) (i : Int) : impl_nexts.f l i = spec_l2Nexts.f l i := rfl
theorem nexts_ev (l : List S51) (h : GoodP l = true) (i : Nat) (hi : i < l.length) : ∃ t, spec_l2Nexts.f l (i : Int) = some t ∧ t.length ≤ 2 ∧ ∀ j (hj : j < t.length), 0 ≤ t[j] ∧ t[j] < (l.length : Int) := by
  obtain ⟨hn, h⟩ := GoodP_at h
  obtain ⟨h1, h2⟩ := h i hi
  unfold spec_l2Nexts.f
  rw [if_pos (by omega), if_pos (by omega), Stepb_nat l i hi]
  by_cases h11 : l[i].f0 = 11
  · rw [if_pos h11]; exact ⟨_, rfl, by simp, fun j hj => by simp at hj⟩
  have h2 := h2 h11
  have e1 : wrap64 ((i : Int) + 1) = (i : Int) + 1 := wrap_id _ (by omega) (by omega)
  rw [if_neg h11, e1]
  have two : ∀ a b : Int, 0 ≤ a → a < l.length → 0 ≤ b → b < l.length → ∃ t, some ([a, b] : List Int) = some t ∧ t.length ≤ 2 ∧ ∀ j (hj : j < t.length), 0 ≤ t[j] ∧ t[j] < (l.length : Int) := by
    intro a b ha ha' hb hb'
    refine ⟨_, rfl, by simp, fun j hj => ?_⟩
    match j, hj with
    | 0, _ => exact ⟨ha, ha'⟩
    | 1, _ => exact ⟨hb, hb'⟩
  have one : ∀ a : Int, 0 ≤ a → a < l.length → ∃ t, some ([a] : List Int) = some t ∧ t.length ≤ 2 ∧ ∀ j (hj : j < t.length), 0 ≤ t[j] ∧ t[j] < (l.length : Int) := by
    intro a ha ha'
    refine ⟨_, rfl, by simp, fun j hj => ?_⟩
    match j, hj with
    | 0, _ => exact ⟨ha, ha'⟩
  by_cases h8 : l[i].f0 = 8
  · have := h1 (Or.inl h8)
    rw [if_pos h8, wrap_id ((i : Int) + l[i].f5) (by omega) (by omega), wrap_id _ (by omega) (by omega)]
    exact one _ (by omega) (by omega)
  rw [if_neg h8]
  by_cases h9 : l[i].f0 = 9
  · have := h1 (Or.inr (Or.inl h9))
    rw [if_pos h9, wrap_id ((i : Int) + l[i].f5) (by omega) (by omega), wrap_id _ (by omega) (by omega)]
    exact two _ _ (by omega) (by omega) (by omega) (by omega)
  rw [if_neg h9]
  by_cases h10 : l[i].f0 = 10
  · have := h1 (Or.inr (Or.inr h10))
    rw [if_pos h10, wrap_id ((i : Int) + l[i].f5) (by omega) (by omega), wrap_id _ (by omega) (by omega)]
    exact two _ _ (by omega) (by omega) (by omega) (by omega)
  rw [if_neg h10]
  exact one _ (by omega) (by omega)
def tr : List Bool → Nat → List Int
  | [], _ => []
  | b :: v, s => if b = true then (s : Int) :: tr v (s + 1) else tr v (s + 1)
theorem tr_ge : ∀ (v : List Bool) (s : Nat) (x : Int), x ∈ tr v s → (s : Int) ≤ x
  | [], _, _, h => by simp [tr] at h
  | b :: v, s, x, h => by
    unfold tr at h
    by_cases hb : b = true
    · rw [if_pos hb] at h
      rcases List.mem_cons.1 h with h | h
      · omega
      · have := tr_ge v (s + 1) x h; omega
    · rw [if_neg hb] at h
      have := tr_ge v (s + 1) x h; omega
theorem tr_len : ∀ (v : List Bool) (s : Nat), (tr v s).length ≤ v.length
  | [], _ => by simp [tr]
  | b :: v, s => by
    have := tr_len v (s + 1)
    unfold tr
    by_cases hb : b = true
    · rw [if_pos hb]; simp; omega
    · rw [if_neg hb]; simp; omega
theorem tr_mem : ∀ (v : List Bool) (s j : Nat) (h : j < v.length), decide (((s + j : Nat) : Int) ∈ tr v s) = v[j]
  | [], _, _, h => by simp at h
  | b :: v, s, 0, h => by
    unfold tr
    by_cases hb : b = true
    · rw [if_pos hb]; simp [hb]
    · rw [if_neg hb]
      have : ¬ ((s + 0 : Nat) : Int) ∈ tr v (s + 1) := fun h => by have := tr_ge v (s + 1) _ h; omega
      simp only [decide_eq_false this, List.getElem_cons_zero]
      exact (Bool.eq_false_iff.mpr hb).symm
  | b :: v, s, j + 1, h => by
    have ih := tr_mem v (s + 1) j (by simpa using h)
    rw [show s + 1 + j = s + (j + 1) by omega] at ih
    unfold tr
    rw [List.getElem_cons_succ, ← ih]
    by_cases hb : b = true
    · rw [if_pos hb]
      have : ¬ ((s + (j + 1) : Nat) : Int) = (s : Int) := by omega
      simp only [List.mem_cons, this, false_or]
    · rw [if_neg hb]
def putP : List Int → Int → List Int
  | [], x => [x]
  | a :: l, x => if a < x then a :: putP l x else if a = x then a :: l else x :: a :: l
theorem putP_low (l : List Int) (x : Int) (h : ∀ a, a ∈ l → x < a) : putP l x = x :: l := by
  cases l with
  | nil => rfl
  | cons a l =>
    have := h a (by simp)
    unfold putP
    rw [if_neg (by omega), if_neg (by omega)]
theorem putP_tr : ∀ (v : List Bool) (s j : Nat) (h : j < v.length), putP (tr v s) ((s + j : Nat) : Int) = tr (v.set j true) s
  | [], _, _, h => by simp at h
  | b :: v, s, 0, h => by
    have low : ∀ a, a ∈ tr v (s + 1) → (s : Int) < a := fun a ha => by have := tr_ge v (s + 1) a ha; omega
    rw [List.set_cons_zero]
    unfold tr
    rw [if_pos rfl, Nat.add_zero]
    by_cases hb : b = true
    · rw [if_pos hb]; unfold putP; rw [if_neg (by omega), if_pos (by omega)]
    · rw [if_neg hb]; exact putP_low _ _ low
  | b :: v, s, j + 1, h => by
    have ih := putP_tr v (s + 1) j (by simpa using h)
    rw [show s + 1 + j = s + (j + 1) by omega] at ih
    rw [List.set_cons_succ]
    unfold tr
    by_cases hb : b = true
    · rw [if_pos hb, if_pos hb, ← ih]; conv => lhs; unfold putP
      rw [if_pos (by omega)]
    · rw [if_neg hb, if_neg hb, ih]
theorem tr_falses : ∀ (m s : Nat), tr (List.replicate m false) s = []
  | 0, _ => rfl
  | m + 1, s => by rw [List.replicate_succ]; unfold tr; rw [if_neg (by simp)]; exact tr_falses m (s + 1)
theorem rdOf_bool (l : List Bool) (i : Nat) (h : i < l.length) : rdOf false l (i : Int) = l[i] := by unfold rdOf; simp [List.getD, h]
theorem l1Has_loop (l : List Int) (x : Int) (hl : l.length ≤ 1099511627776) : ∀ (d i : Nat), i + d = l.length → Ev (fun k => spec_l1Has.l0 k x l (l.length : Int) (i : Int)) (decide (x ∈ l.drop i))
  | 0, i, h => by
    rw [List.drop_eq_nil_of_le (by omega)]
    exact Ev.step (fun k => spec_l1Has.l0.eq_2 ..) (Ev.neg (by omega) (Ev.now _))
  | d + 1, i, h => by
    refine Ev.step (fun k => spec_l1Has.l0.eq_2 ..) (Ev.pos (by omega) (Ev.pos (by omega) (Ev.pos (by omega) ?_)))
    rw [rd_nat l i (by omega), w1 i (by omega), List.drop_eq_getElem_cons (show i < l.length by omega)]
    by_cases hx : l[i] = x
    · refine Ev.pos hx (Ev.at_ (Ev.now _) ?_); simp [hx]
    · refine Ev.neg hx (Ev.at_ (l1Has_loop l x hl d (i + 1) (by omega)) ?_)
      have : ¬ x = l[i] := fun h => hx h.symm
      simp only [List.mem_cons, this, false_or]
theorem l1Has_ev (l : List Int) (x : Int) (hl : l.length ≤ 1099511627776) : Ev (fun k => spec_l1Has.f k l x) (decide (x ∈ l)) := by
  have h := l1Has_loop l x hl l.length 0 (by omega)
  rw [List.drop_zero] at h
  exact h
theorem l1Put_loop (l : List Int) (x : Int) (hl : l.length ≤ 1099511627776) : ∀ (d i : Nat), i + d = l.length → Ev (fun k => spec_l1Put.l0 k l x (i : Int)) (l.take i ++ putP (l.drop i) x)
  | 0, i, h => by
    rw [List.drop_eq_nil_of_le (by omega), List.take_of_length_le (by omega)]
    refine Ev.step (fun k => spec_l1Put.l0.eq_2 ..) (Ev.neg (by omega) ?_)
    refine Ev.bindE rfl (Ev.pos (by omega) (Ev.pos (by omega) (Ev.bindE rfl ?_)))
    rw [Int.toNat_natCast, List.take_of_length_le (by omega), List.drop_eq_nil_of_le (by omega)]
    refine Ev.pos (by simp; omega) (Ev.bindE rfl (Ev.pos (by simp; omega) (Ev.bindE rfl (Ev.bindE rfl (Ev.pos (by simp; omega) (Ev.at_ (Ev.now _) ?_))))))
    simp [putP]
  | d + 1, i, h => by
    have hd := List.drop_eq_getElem_cons (show i < l.length by omega)
    have hlt : (l.take i).length = i := by simp; omega
    refine Ev.step (fun k => spec_l1Put.l0.eq_2 ..) (Ev.pos (by omega) (Ev.pos (by omega) ?_))
    rw [rd_nat l i (by omega), w1 i (by omega)]
    by_cases h1 : l[i] < x
    · refine Ev.pos h1 (Ev.at_ (l1Put_loop l x hl d (i + 1) (by omega)) ?_)
      rw [hd]
      conv => rhs; unfold putP
      rw [if_pos h1, List.take_succ_eq_append_getElem (show i < l.length by omega), List.append_assoc]; rfl
    · refine Ev.neg h1 ?_
      by_cases h2 : l[i] = x
      · refine Ev.pos h2 (Ev.at_ (Ev.now _) ?_)
        rw [hd]; unfold putP
        rw [if_neg h1, if_pos h2, ← hd, List.take_append_drop]
      · refine Ev.neg h2 (Ev.bindE rfl (Ev.pos (by omega) (Ev.bindE rfl ?_)))
        rw [Int.toNat_natCast]
        refine Ev.pos (by simp; omega) (Ev.bindE rfl (Ev.pos (by simp; omega) (Ev.bindE rfl (Ev.bindE rfl (Ev.pos (by simp; omega) (Ev.at_ (Ev.now _) ?_))))))
        rw [hd]; unfold putP
        rw [if_neg h1, if_neg h2]; simp
theorem l1Put_ev (l : List Int) (x : Int) (hl : l.length ≤ 1099511627776) : Ev (fun k => spec_l1Put.f k l x) (putP l x) := by
  have h := l1Put_loop l x hl l.length 0 (by omega)
  rw [List.drop_zero, List.take_zero, List.nil_append] at h
  exact h
theorem reach_inner (l : List S51) (hn : l.length ≤ 20) (i : Nat) (t : List Int) (ht2 : t.length ≤ 2) (ht : ∀ j (hj : j < t.length), 0 ≤ t[j] ∧ t[j] < (l.length : Int))
    (cont : ∀ v : List Bool, v.length = l.length → ∃ v', v'.length = l.length ∧ Ev (fun k => impl_reachable.l0 k l v (l.length : Int) (wrap64 ((i : Int) + 1))) v' ∧ Ev (fun k => spec_l11Reached.l0 k l (tr v 0) (wrap64 ((i : Int) + 1))) (tr v' 0)) :
    ∀ (d j : Nat) (v : List Bool), j + d = t.length → v.length = l.length → ∃ v', v'.length = l.length ∧ Ev (fun k => impl_reachable.l1 k l v (l.length : Int) (i : Int) t (t.length : Int) (j : Int)) v' ∧ Ev (fun k => spec_l11Reached.l1 k l (tr v 0) (i : Int) t (t.length : Int) (j : Int)) (tr v' 0)
  | 0, j, v, h, hv => by
    obtain ⟨v', h0, h1, h2⟩ := cont v hv
    exact ⟨v', h0, Ev.step (fun k => impl_reachable.l1.eq_2 ..) (Ev.neg (by omega) h1), Ev.step (fun k => spec_l11Reached.l1.eq_2 ..) (Ev.neg (by omega) h2)⟩
  | d + 1, j, v, h, hv => by
    have hj := ht j (by omega)
    obtain ⟨x, hx⟩ := Int.eq_ofNat_of_zero_le hj.1
    rw [hx] at hj
    obtain ⟨v', h0, h1, h2⟩ := reach_inner l hn i t ht2 ht cont d (j + 1) (v.set x true) (by omega) (by simpa using hv)
    have hp := putP_tr v 0 x (by omega)
    rw [Nat.zero_add] at hp
    have hlen := tr_len v 0
    refine ⟨v', h0, Ev.step (fun k => impl_reachable.l1.eq_2 ..) ?_, Ev.step (fun k => spec_l11Reached.l1.eq_2 ..) ?_⟩
    · rw [rd_nat t j (by omega), w1 j (by omega), hx]
      exact Ev.pos (by omega) (Ev.pos (by omega) (Ev.pos (by omega) (Ev.pos (by omega) (Ev.pos (by omega) h1))))
    · rw [rd_nat t j (by omega), w1 j (by omega), hx]
      refine Ev.pos (by omega) (Ev.pos (by omega) (Ev.pos (by omega) (Ev.bind (l1Put_ev (tr v 0) (x : Int) (by omega)) ?_)))
      rw [hp]; exact h2
theorem reach_outer (l : List S51) (hg : GoodP l = true) : ∀ (d i : Nat) (v : List Bool), i + d = l.length → v.length = l.length → ∃ v', v'.length = l.length ∧ Ev (fun k => impl_reachable.l0 k l v (l.length : Int) (i : Int)) v' ∧ Ev (fun k => spec_l11Reached.l0 k l (tr v 0) (i : Int)) (tr v' 0)
  | 0, i, v, h, hv => ⟨v, hv, Ev.step (fun k => impl_reachable.l0.eq_2 ..) (Ev.neg (by omega) (Ev.now _)), Ev.step (fun k => spec_l11Reached.l0.eq_2 ..) (Ev.neg (by omega) (Ev.now _))⟩
  | d + 1, i, v, h, hv => by
    have hn := (GoodP_at hg).1
    have hlen := tr_len v 0
    have hm := tr_mem v 0 i (by omega)
    rw [Nat.zero_add] at hm
    have hh := l1Has_ev (tr v 0) (i : Int) (by omega)
    rw [hm] at hh
    by_cases hb : v[i]'(by omega) = true
    · obtain ⟨t, e, t2, ht⟩ := nexts_ev l hg i (by omega)
      obtain ⟨v', h0, h1, h2⟩ := reach_inner l hn.2 i t t2 ht (fun w hw => by rw [w1 i (by omega)]; exact reach_outer l hg d (i + 1) w (by omega) hw) t.length 0 v (by omega) hv
      refine ⟨v', h0, Ev.step (fun k => impl_reachable.l0.eq_2 ..) ?_, Ev.step (fun k => spec_l11Reached.l0.eq_2 ..) ?_⟩
      · rw [rdOf_bool v i (by omega)]
        exact Ev.pos (by omega) (Ev.pos (by omega) (Ev.pos (by omega) (Ev.pos hb (Ev.bindE ((nexts_eq l i).trans e) h1))))
      · exact Ev.pos (by omega) (Ev.bind hh (Ev.pos hb (Ev.bindE e h2)))
    · obtain ⟨v', h0, h1, h2⟩ := reach_outer l hg d (i + 1) v (by omega) hv
      refine ⟨v', h0, Ev.step (fun k => impl_reachable.l0.eq_2 ..) ?_, Ev.step (fun k => spec_l11Reached.l0.eq_2 ..) ?_⟩
      · rw [rdOf_bool v i (by omega), w1 i (by omega)]
        exact Ev.pos (by omega) (Ev.pos (by omega) (Ev.pos (by omega) (Ev.neg hb h1)))
      · rw [w1 i (by omega)]
        exact Ev.pos (by omega) (Ev.bind hh (Ev.neg hb h2))
theorem reach_zero (l : List S51) (hg : GoodP l = true) : ∃ v : List Bool, v.length = l.length ∧ Ev (fun k => impl_reachable.f k l 0) v ∧ Ev (fun k => spec_l11Reached.f k l 0) (tr v 0) := by
  have hn := (GoodP_at hg).1
  obtain ⟨v, h0, h1, h2⟩ := reach_outer l hg l.length 0 ((List.replicate ((l.length : Int) : Int).toNat false : List Bool).set (0 : Int).toNat true) (by omega) (by simp)
  refine ⟨v, h0, ?_, ?_⟩
  · unfold impl_reachable.f
    exact Ev.pos (by omega) (Ev.pos (by omega) (Ev.bindE rfl (Ev.pos (by omega) (Ev.pos (by simp; omega) h1))))
  · unfold spec_l11Reached.f
    have e : tr ((List.replicate ((l.length : Int) : Int).toNat false : List Bool).set (0 : Int).toNat true) 0 = [0] := by
      obtain ⟨m, hm⟩ : ∃ m, ((l.length : Int) : Int).toNat = m + 1 := ⟨l.length - 1, by omega⟩
      rw [hm, List.replicate_succ]
      show tr (true :: List.replicate m false) 0 = [0]
      unfold tr
      rw [if_pos rfl, tr_falses]; rfl
    rw [e] at h2
    exact h2
theorem reachedIn_pr (v : List Bool) (i : Nat) (h : i < v.length) : impl_ReachedIn.pr v (i : Int) = some v[i] := by
  unfold impl_ReachedIn.pr; rw [if_pos (by omega), if_pos (by omega), rdOf_bool v i h]
theorem reachedIn_lst (v : List Bool) (hv : v.length ≤ 20) : ∀ (d i : Nat) (o : List Int), i + d = v.length → o.length ≤ i → Ev (fun k => impl_ReachedIn.lst k v (v.length : Int) o (i : Int)) (o ++ tr (v.drop i) i)
  | 0, i, o, h, ho => by
    rw [List.drop_eq_nil_of_le (by omega)]
    exact Ev.step (fun k => impl_ReachedIn.lst.eq_2 ..) (Ev.neg (by omega) (Ev.at_ (Ev.now _) (by simp [tr])))
  | d + 1, i, o, h, ho => by
    refine Ev.step (fun k => impl_ReachedIn.lst.eq_2 ..) (Ev.pos (by omega) (Ev.bindE (reachedIn_pr v i (by omega)) ?_))
    rw [w1 i (by omega), List.drop_eq_getElem_cons (show i < v.length by omega)]
    by_cases hb : v[i] = true
    · refine Ev.pos hb (Ev.pos (by omega) (Ev.at_ (reachedIn_lst v hv d (i + 1) (o ++ [(i : Int)]) (by omega) (by simp; omega)) ?_))
      conv => rhs; unfold tr
      rw [if_pos hb]; simp
    · refine Ev.neg hb (Ev.at_ (reachedIn_lst v hv d (i + 1) o (by omega) (by omega)) ?_)
      conv => rhs; unfold tr
      rw [if_neg hb]
theorem reachedIn_both (l : List S51) (hl : l.length ≤ 1048576) : Both (fun r => r.1.length ≤ 1048576) (fun k => spec_ReachedIn.f k l) (fun k => impl_ReachedIn.f k l) := by
  unfold spec_ReachedIn.f impl_ReachedIn.f
  refine Both.bindL (goodP_spec l (by omega)) (Both.bindR (goodP_impl l (by omega)) (Both.ite (fun h => ?_) (fun _ => Both.now _ (by simp))))
  have hn := (GoodP_at h).1
  obtain ⟨v, hv, h1, h2⟩ := reach_zero l h
  have hlen := tr_len v 0
  have h3 := reachedIn_lst v (by omega) v.length 0 [] (by omega) (by simp)
  rw [List.drop_zero, List.nil_append, hv] at h3
  exact Both.bindL h2 (Both.bindR h1 (Both.bindR h3 (Both.now _ (by show (tr v 0).length ≤ _; omega))))
def trp (f : Nat → Bool) : List Bool → Nat → List Int
  | [], _ => []
  | b :: v, s => if (b && f s) = true then (s : Int) :: trp f v (s + 1) else trp f v (s + 1)
theorem trp_filter (f : Nat → Bool) (g : Int → Bool) (hg : ∀ i : Nat, g (i : Int) = f i) : ∀ (v : List Bool) (s : Nat), (tr v s).filter g = trp f v s
  | [], _ => rfl
  | b :: v, s => by
    have ih := trp_filter f g hg v (s + 1)
    unfold tr trp
    by_cases hb : b = true
    · rw [if_pos hb, hb, Bool.true_and]
      by_cases hf : f s = true
      · rw [if_pos hf, List.filter_cons_of_pos (by rw [hg, hf]), ih]
      · rw [if_neg hf, List.filter_cons_of_neg (by rw [hg]; exact hf), ih]
    · rw [if_neg hb, Bool.eq_false_iff.mpr hb, Bool.false_and, if_neg (by simp), ih]
theorem tr_lt : ∀ (v : List Bool) (s : Nat) (x : Int), x ∈ tr v s → x < ((s + v.length : Nat) : Int)
  | [], _, _, h => by simp [tr] at h
  | b :: v, s, x, h => by
    unfold tr at h
    by_cases hb : b = true
    · rw [if_pos hb] at h
      rcases List.mem_cons.1 h with h | h
      · simp; omega
      · have := tr_lt v (s + 1) x h; simp; omega
    · rw [if_neg hb] at h
      have := tr_lt v (s + 1) x h; simp; omega
theorem there_ev (l : List S51) (a : Int) (hl : l.length ≤ 1048576) : Ev (fun k => spec_l11There.f k l a) (GoodP l && In a 0 ((l.length : Int) - 1)) := by
  unfold spec_l11There.f
  refine Ev.bind (goodP_spec l (by omega)) ?_
  by_cases hg : GoodP l = true
  · refine Ev.pos hg ?_
    rw [hg]
    by_cases h0 : a ≥ 0
    · refine Ev.pos h0 (Ev.at_ (Ev.now _) ?_)
      by_cases h1 : a < (l.length : Int)
      · rw [decide_eq_true h1, In_true.2 (by omega)]; rfl
      · rw [decide_eq_false h1, In_false.2 (by omega)]; rfl
    · refine Ev.neg h0 (Ev.at_ (Ev.now _) ?_)
      rw [In_false.2 (by omega)]; rfl
  · refine Ev.neg hg (Ev.at_ (Ev.now _) ?_); rw [Bool.eq_false_iff.mpr hg]; rfl
theorem isStep_ev (l : List S51) (a : Int) (hl : l.length ≤ 1048576) : Ev (fun k => impl_isStep.f k l a) (GoodP l && In a 0 ((l.length : Int) - 1)) := by
  unfold impl_isStep.f
  refine Ev.bind (goodP_impl l (by omega)) ?_
  by_cases hg : GoodP l = true
  · refine Ev.pos hg ?_
    rw [wrap_id _ (by omega) (by omega)]
    refine Ev.bindE (impl_in_eq ..) (Ev.at_ (Ev.now _) ?_)
    rw [hg]; rfl
  · refine Ev.neg hg (Ev.at_ (Ev.now _) ?_); rw [Bool.eq_false_iff.mpr hg]; rfl
theorem indexI_loop (t : List Int) (a : Int) (hl : t.length ≤ 1048576) : ∀ (d i : Nat), i + d = t.length → ∃ r, Ev (fun k => slices_Index_int_int.l0 k t a (t.length : Int) (i : Int)) r ∧ decide (r ≥ 0) = decide (a ∈ t.drop i)
  | 0, i, h => ⟨-1, Ev.step (fun k => slices_Index_int_int.l0.eq_2 ..) (Ev.neg (by omega) (Ev.now _)), by rw [List.drop_eq_nil_of_le (by omega)]; simp⟩
  | d + 1, i, h => by
    have hi : i < t.length := by omega
    rw [List.drop_eq_getElem_cons hi]
    by_cases hx : a = t[i]
    · refine ⟨(i : Int), Ev.step (fun k => slices_Index_int_int.l0.eq_2 ..) (Ev.pos (by omega) (Ev.pos (by omega) (Ev.pos (by omega) ?_))), ?_⟩
      · rw [rd_nat t i hi]; exact Ev.pos hx (Ev.now _)
      · exact (decide_eq_true (by omega)).trans (decide_eq_true (by rw [hx]; exact List.mem_cons_self)).symm
    · obtain ⟨r, h1, h2⟩ := indexI_loop t a hl d (i + 1) (by omega)
      refine ⟨r, Ev.step (fun k => slices_Index_int_int.l0.eq_2 ..) (Ev.pos (by omega) (Ev.pos (by omega) (Ev.pos (by omega) ?_))), ?_⟩
      · rw [rd_nat t i hi, w1 i (by omega)]; exact Ev.neg hx h1
      · rw [h2]; simp only [List.mem_cons, hx, false_or]
theorem contains_ev (t : List Int) (a : Int) (hl : t.length ≤ 1048576) : Ev (fun k => slices_Contains_int_int.f k t a) (decide (a ∈ t)) := by
  obtain ⟨r, h1, h2⟩ := indexI_loop t a hl t.length 0 (by omega)
  rw [List.drop_zero] at h2
  unfold slices_Contains_int_int.f
  exact Ev.bind h1 (Ev.at_ (Ev.now _) h2)
def nx (l : List S51) (i : Int) : List Int := (spec_l2Nexts.f l i).getD []
theorem nx_ev (l : List S51) (h : GoodP l = true) (i : Nat) (hi : i < l.length) : spec_l2Nexts.f l (i : Int) = some (nx l (i : Int)) ∧ impl_nexts.f l (i : Int) = some (nx l (i : Int)) ∧ (nx l (i : Int)).length ≤ 2 ∧ ∀ j (hj : j < (nx l (i : Int)).length), 0 ≤ (nx l (i : Int))[j] ∧ (nx l (i : Int))[j] < (l.length : Int) := by
  obtain ⟨t, e, h2, h3⟩ := nexts_ev l h i hi
  have en : nx l (i : Int) = t := by unfold nx; rw [e]; rfl
  rw [en]
  exact ⟨e, (nexts_eq l i).trans e, h2, h3⟩
theorem evAll {α : Type} {P : Nat → Nat → Option α} {β : Nat → α} : ∀ N : Nat, (∀ i, i < N → Ev (fun k => P k i) (β i)) → ∃ K, ∀ k, K ≤ k → ∀ i, i < N → P k i = some (β i)
  | 0, _ => ⟨0, fun _ _ i hi => absurd hi (Nat.not_lt_zero i)⟩
  | N + 1, h => by
    obtain ⟨K, hK⟩ := evAll N (fun i hi => h i (by omega))
    obtain ⟨K2, hK2⟩ := h N (by omega)
    refine ⟨max K K2, fun k hk i hi => ?_⟩
    by_cases e : i = N
    · rw [e]; exact hK2 k (by omega)
    · exact hK k (by omega) i (by omega)
def flt (β : Nat → Bool) : Nat → Nat → List Int
  | 0, _ => []
  | d + 1, i => if β i = true then (i : Int) :: flt β d (i + 1) else flt β d (i + 1)
theorem flt_len (β : Nat → Bool) : ∀ d i, (flt β d i).length ≤ d
  | 0, _ => by simp [flt]
  | d + 1, i => by have := flt_len β d (i + 1); unfold flt; split <;> simp <;> omega
theorem trp_flt (f : Nat → Bool) (v : List Bool) : ∀ (d i : Nat), i + d = v.length → trp f (v.drop i) i = flt (fun j => v.getD j false && f j) d i
  | 0, i, h => by rw [List.drop_eq_nil_of_le (by omega)]; rfl
  | d + 1, i, h => by
    have hi : i < v.length := by omega
    rw [List.drop_eq_getElem_cons hi]
    unfold trp flt
    have e : v.getD i false = v[i] := by simp [List.getD, hi]
    simp only [e, trp_flt f v d (i + 1) (by omega)]
theorem impl_AheadOf_lstP (p : Int → Option Bool) (n : Nat) (hn : n ≤ 1048576) (β : Nat → Bool) (hp : ∀ i : Nat, i < n → p (i : Int) = some (β i)) : ∀ (d i : Nat) (o : List Int) (k : Nat), i + d = n → d < k → o.length ≤ i → impl_AheadOf.lst k p (n : Int) o (i : Int) = some (o ++ flt β d i)
  | 0, i, o, k, h, hk, ho => by
    obtain ⟨k, rfl⟩ : ∃ m, k = m + 1 := ⟨k - 1, by omega⟩
    unfold impl_AheadOf.lst; rw [if_neg (by omega)]; simp [flt]
  | d + 1, i, o, k, h, hk, ho => by
    obtain ⟨k, rfl⟩ : ∃ m, k = m + 1 := ⟨k - 1, by omega⟩
    unfold impl_AheadOf.lst
    rw [if_pos (by omega), hp i (by omega), Option.bind_some, w1 i (by omega)]
    unfold flt
    by_cases hb : β i = true
    · rw [if_pos hb, if_pos (by omega), if_pos hb, impl_AheadOf_lstP p n hn β hp d (i + 1) (o ++ [(i : Int)]) k (by omega) (by omega) (by simp; omega)]; simp
    · rw [if_neg hb, if_neg hb]; exact impl_AheadOf_lstP p n hn β hp d (i + 1) o k (by omega) (by omega) (by omega)
theorem impl_AheadOf_lst (P : Nat → Int → Option Bool) (n : Nat) (hn : n ≤ 1048576) (β : Nat → Bool) (hP : ∀ i : Nat, i < n → Ev (fun k => P k (i : Int)) (β i)) : Ev (fun k => impl_AheadOf.lst k (P k) (n : Int) [] 0) (flt β n 0) := by
  obtain ⟨K, hK⟩ := evAll n hP
  exact ⟨max K (n + 1), fun k hk => by
    have h := impl_AheadOf_lstP (P k) n hn β (hK k (by omega)) n 0 [] k (by omega) (by omega) (by simp)
    rw [List.nil_append] at h
    exact h⟩
theorem impl_mustPass_lstP (p : Int → Option Bool) (n : Nat) (hn : n ≤ 1048576) (β : Nat → Bool) (hp : ∀ i : Nat, i < n → p (i : Int) = some (β i)) : ∀ (d i : Nat) (o : List Int) (k : Nat), i + d = n → d < k → o.length ≤ i → impl_mustPass.lst k p (n : Int) o (i : Int) = some (o ++ flt β d i)
  | 0, i, o, k, h, hk, ho => by
    obtain ⟨k, rfl⟩ : ∃ m, k = m + 1 := ⟨k - 1, by omega⟩
    unfold impl_mustPass.lst; rw [if_neg (by omega)]; simp [flt]
  | d + 1, i, o, k, h, hk, ho => by
    obtain ⟨k, rfl⟩ : ∃ m, k = m + 1 := ⟨k - 1, by omega⟩
    unfold impl_mustPass.lst
    rw [if_pos (by omega), hp i (by omega), Option.bind_some, w1 i (by omega)]
    unfold flt
    by_cases hb : β i = true
    · rw [if_pos hb, if_pos (by omega), if_pos hb, impl_mustPass_lstP p n hn β hp d (i + 1) (o ++ [(i : Int)]) k (by omega) (by omega) (by simp; omega)]; simp
    · rw [if_neg hb, if_neg hb]; exact impl_mustPass_lstP p n hn β hp d (i + 1) o k (by omega) (by omega) (by omega)
theorem impl_mustPass_lst (P : Nat → Int → Option Bool) (n : Nat) (hn : n ≤ 1048576) (β : Nat → Bool) (hP : ∀ i : Nat, i < n → Ev (fun k => P k (i : Int)) (β i)) : Ev (fun k => impl_mustPass.lst k (P k) (n : Int) [] 0) (flt β n 0) := by
  obtain ⟨K, hK⟩ := evAll n hP
  exact ⟨max K (n + 1), fun k hk => by
    have h := impl_mustPass_lstP (P k) n hn β (hK k (by omega)) n 0 [] k (by omega) (by omega) (by simp)
    rw [List.nil_append] at h
    exact h⟩
theorem ahead_loop (l : List S51) (hg : GoodP l = true) (a : Int) (q : List Int) (hq : q.length ≤ 20) (hb : ∀ x, x ∈ q → 0 ≤ x ∧ x < (l.length : Int)) : ∀ (d i : Nat) (o : List Int), i + d = q.length → o.length ≤ i → Ev (fun k => spec_l11Ahead.l0 k l a o q (q.length : Int) (i : Int)) (o ++ (q.drop i).filter (fun x => decide (a ∈ nx l x)))
  | 0, i, o, h, ho => by
    rw [List.drop_eq_nil_of_le (by omega)]
    exact Ev.step (fun k => spec_l11Ahead.l0.eq_2 ..) (Ev.neg (by omega) (Ev.at_ (Ev.now _) (by simp)))
  | d + 1, i, o, h, ho => by
    have hi : i < q.length := by omega
    obtain ⟨n, hn⟩ := Int.eq_ofNat_of_zero_le (hb q[i] (List.getElem_mem ..)).1
    have hlt := (hb q[i] (List.getElem_mem ..)).2
    obtain ⟨e1, e2, e3, e4⟩ := nx_ev l hg n (by omega)
    refine Ev.step (fun k => spec_l11Ahead.l0.eq_2 ..) (Ev.pos (by omega) (Ev.pos (by omega) (Ev.pos (by omega) ?_)))
    rw [rd_nat q i hi, w1 i (by omega), List.drop_eq_getElem_cons hi, hn]
    refine Ev.bindE e1 (Ev.bind (l1Has_ev _ a (by omega)) ?_)
    by_cases hx : a ∈ nx l (n : Int)
    · rw [List.filter_cons_of_pos (by rw [decide_eq_true hx])]
      refine Ev.pos (decide_eq_true hx) (Ev.pos (by omega) (Ev.at_ (ahead_loop l hg a q hq hb d (i + 1) (o ++ [(n : Int)]) (by omega) (by simp; omega)) ?_))
      simp
    · rw [List.filter_cons_of_neg (by rw [decide_eq_false hx]; simp)]
      exact Ev.neg (by rw [decide_eq_false hx]; simp) (ahead_loop l hg a q hq hb d (i + 1) o (by omega) (by omega))
theorem ahead_ev (l : List S51) (hg : GoodP l = true) (a : Int) (v : List Bool) (hv : v.length = l.length) (hr : Ev (fun k => spec_l11Reached.f k l 0) (tr v 0)) : Ev (fun k => spec_l11Ahead.f k l a) (flt (fun j => v.getD j false && decide (a ∈ nx l (j : Int))) l.length 0) := by
  have hn := (GoodP_at hg).1
  have hlen := tr_len v 0
  unfold spec_l11Ahead.f
  refine Ev.bind hr (Ev.at_ (ahead_loop l hg a (tr v 0) (by omega) (fun x hx => ⟨by have := tr_ge v 0 x hx; omega, by have := tr_lt v 0 x hx; omega⟩) (tr v 0).length 0 [] (by omega) (by simp)) ?_)
  rw [List.drop_zero, List.nil_append, trp_filter (fun j => decide (a ∈ nx l (j : Int))) _ (fun i => rfl)]
  have := trp_flt (fun j => decide (a ∈ nx l (j : Int))) v v.length 0 (by omega)
  rw [List.drop_zero] at this
  rw [this, hv]
theorem nx_all (l : List S51) (h : GoodP l = true) (i : Nat) (hi : i < l.length) : (∀ x, x ∈ nx l (i : Int) → (i : Int) < x ∧ x < (l.length : Int)) ∧ ((l[i].f0 = 8 ∨ l[i].f0 = 9 ∨ l[i].f0 = 10) → (i : Int) + l[i].f5 + 1 ∈ nx l (i : Int)) := by
  obtain ⟨hn, h⟩ := GoodP_at h
  obtain ⟨h1, h2⟩ := h i hi
  unfold nx spec_l2Nexts.f
  rw [if_pos (by omega), if_pos (by omega), Stepb_nat l i hi]
  by_cases h11 : l[i].f0 = 11
  · rw [if_pos h11]; exact ⟨fun x hx => by simp at hx, fun hj => by omega⟩
  have h2 := h2 h11
  have e1 : wrap64 ((i : Int) + 1) = (i : Int) + 1 := wrap_id _ (by omega) (by omega)
  rw [if_neg h11, e1]
  by_cases h8 : l[i].f0 = 8
  · have := h1 (Or.inl h8)
    rw [if_pos h8, wrap_id ((i : Int) + l[i].f5) (by omega) (by omega), wrap_id _ (by omega) (by omega)]
    exact ⟨fun x hx => by simp at hx; omega, fun _ => by simp⟩
  rw [if_neg h8]
  by_cases h9 : l[i].f0 = 9
  · have := h1 (Or.inr (Or.inl h9))
    rw [if_pos h9, wrap_id ((i : Int) + l[i].f5) (by omega) (by omega), wrap_id _ (by omega) (by omega)]
    exact ⟨fun x hx => by simp at hx; omega, fun _ => by simp⟩
  rw [if_neg h9]
  by_cases h10 : l[i].f0 = 10
  · have := h1 (Or.inr (Or.inr h10))
    rw [if_pos h10, wrap_id ((i : Int) + l[i].f5) (by omega) (by omega), wrap_id _ (by omega) (by omega)]
    exact ⟨fun x hx => by simp at hx; omega, fun _ => by simp⟩
  rw [if_neg h10]
  exact ⟨fun x hx => by simp at hx; omega, fun hj => by omega⟩
theorem getD_setb (v : List Bool) (x j : Nat) (b : Bool) : (v.set x b).getD j false = if x = j ∧ x < v.length then b else v.getD j false := by
  simp only [List.getD, List.getElem?_set]
  by_cases h : x = j
  · subst h
    by_cases hx : x < v.length <;> simp [hx]
  · simp [h]
theorem getD_get (v : List Bool) (j : Nat) (h : j < v.length) : v.getD j false = v[j] := by simp [List.getD, h]
theorem reach2_inner (l : List S51) (hn : l.length ≤ 20) (i : Nat) (t : List Int) (ht2 : t.length ≤ 2) (ht : ∀ x, x ∈ t → (i : Int) < x ∧ x < (l.length : Int)) (P : List Bool → Prop)
    (cont : ∀ v : List Bool, v.length = l.length → ∃ v', v'.length = l.length ∧ Ev (fun k => impl_reachable.l0 k l v (l.length : Int) (wrap64 ((i : Int) + 1))) v' ∧ (∀ j, v.getD j false = true → v'.getD j false = true) ∧ (∀ a, a ≤ i → v'.getD a false = v.getD a false) ∧ P v') :
    ∀ (d j : Nat) (v : List Bool), j + d = t.length → v.length = l.length → ∃ v', v'.length = l.length ∧ Ev (fun k => impl_reachable.l1 k l v (l.length : Int) (i : Int) t (t.length : Int) (j : Int)) v' ∧ (∀ j, v.getD j false = true → v'.getD j false = true) ∧ (∀ a, a ≤ i → v'.getD a false = v.getD a false) ∧ (∀ x, x ∈ t.drop j → v'.getD x.toNat false = true) ∧ P v'
  | 0, j, v, h, hv => by
    obtain ⟨v', h0, h1, h2, h3, h4⟩ := cont v hv
    exact ⟨v', h0, Ev.step (fun k => impl_reachable.l1.eq_2 ..) (Ev.neg (by omega) h1), h2, h3, fun x hx => by rw [List.drop_eq_nil_of_le (by omega)] at hx; simp at hx, h4⟩
  | d + 1, j, v, h, hv => by
    have hj := ht (t[j]'(by omega)) (List.getElem_mem ..)
    obtain ⟨x, hx⟩ := Int.eq_ofNat_of_zero_le (show 0 ≤ t[j]'(by omega) by omega)
    rw [hx] at hj
    obtain ⟨v', h0, h1, h2, h3, h4, h5⟩ := reach2_inner l hn i t ht2 ht P cont d (j + 1) (v.set x true) (by omega) (by simpa using hv)
    refine ⟨v', h0, Ev.step (fun k => impl_reachable.l1.eq_2 ..) ?_, fun a ha => h2 a ?_, fun a ha => (h3 a ha).trans ?_, fun z hz => ?_, h5⟩
    · rw [rd_nat t j (by omega), w1 j (by omega), hx]
      exact Ev.pos (by omega) (Ev.pos (by omega) (Ev.pos (by omega) (Ev.pos (by omega) (Ev.pos (by omega) h1))))
    · rw [getD_setb]; split
      · rfl
      · exact ha
    · rw [getD_setb, if_neg (by omega)]
    · rw [List.drop_eq_getElem_cons (show j < t.length by omega)] at hz
      rcases List.mem_cons.1 hz with hz | hz
      · rw [hz, hx]; exact h2 _ (by rw [getD_setb, if_pos ⟨by simp, by omega⟩])
      · exact h4 z hz
theorem reach2_outer (l : List S51) (hg : GoodP l = true) : ∀ (d i : Nat) (v : List Bool), i + d = l.length → v.length = l.length → ∃ v', v'.length = l.length ∧ Ev (fun k => impl_reachable.l0 k l v (l.length : Int) (i : Int)) v' ∧ (∀ j, v.getD j false = true → v'.getD j false = true) ∧ (∀ a, a ≤ i → v'.getD a false = v.getD a false) ∧ (∀ a, i ≤ a → a < l.length → v'.getD a false = true → ∀ x, x ∈ nx l (a : Int) → v'.getD x.toNat false = true)
  | 0, i, v, h, hv => ⟨v, hv, Ev.step (fun k => impl_reachable.l0.eq_2 ..) (Ev.neg (by omega) (Ev.now _)), fun _ h => h, fun _ _ => rfl, fun a h1 h2 => by omega⟩
  | d + 1, i, v, h, hv => by
    have hn := (GoodP_at hg).1
    by_cases hb : v[i]'(by omega) = true
    · obtain ⟨e, e2, t2, _⟩ := nx_ev l hg i (by omega)
      obtain ⟨v', h0, h1, h2, h3, h4, h5⟩ := reach2_inner l hn.2 i (nx l (i : Int)) t2 (nx_all l hg i (by omega)).1 (fun v' => ∀ a, i + 1 ≤ a → a < l.length → v'.getD a false = true → ∀ x, x ∈ nx l (a : Int) → v'.getD x.toNat false = true) (fun w hw => by
        rw [w1 i (by omega)]
        obtain ⟨v', q0, q1, q2, q3, q4⟩ := reach2_outer l hg d (i + 1) w (by omega) hw
        exact ⟨v', q0, q1, q2, fun a ha => q3 a (by omega), q4⟩) (nx l (i : Int)).length 0 v (by omega) hv
      refine ⟨v', h0, Ev.step (fun k => impl_reachable.l0.eq_2 ..) ?_, h2, h3, fun a g1 g2 g3 x hx => ?_⟩
      · rw [rdOf_bool v i (by omega)]
        exact Ev.pos (by omega) (Ev.pos (by omega) (Ev.pos (by omega) (Ev.pos hb (Ev.bindE e2 h1))))
      · by_cases ea : a = i
        · subst ea; exact h4 x (by rw [List.drop_zero]; exact hx)
        · exact h5 a (by omega) g2 g3 x hx
    · obtain ⟨v', h0, h1, h2, h3, h4⟩ := reach2_outer l hg d (i + 1) v (by omega) hv
      refine ⟨v', h0, Ev.step (fun k => impl_reachable.l0.eq_2 ..) ?_, h2, fun a ha => h3 a (by omega), fun a g1 g2 g3 x hx => ?_⟩
      · rw [rdOf_bool v i (by omega), w1 i (by omega)]
        exact Ev.pos (by omega) (Ev.pos (by omega) (Ev.pos (by omega) (Ev.neg hb h1)))
      · by_cases ea : a = i
        · subst ea; rw [h3 a (by omega), getD_get v a (by omega)] at g3; exact absurd g3 hb
        · exact h4 a (by omega) g2 g3 x hx
theorem reach2_zero (l : List S51) (hg : GoodP l = true) : ∃ v : List Bool, v.length = l.length ∧ Ev (fun k => impl_reachable.f k l 0) v ∧ Ev (fun k => spec_l11Reached.f k l 0) (tr v 0) ∧ v.getD 0 false = true ∧ ∀ a, a < l.length → v.getD a false = true → ∀ x, x ∈ nx l (a : Int) → v.getD x.toNat false = true := by
  have hn := (GoodP_at hg).1
  obtain ⟨v, h0, h1, h2⟩ := reach_zero l hg
  obtain ⟨v', g0, g1, g2, g3, g4⟩ := reach2_outer l hg l.length 0 ((List.replicate ((l.length : Int) : Int).toNat false : List Bool).set (0 : Int).toNat true) (by omega) (by simp)
  have e : v = v' := Ev.one h1 (by
    unfold impl_reachable.f
    exact Ev.pos (by omega) (Ev.pos (by omega) (Ev.bindE rfl (Ev.pos (by omega) (Ev.pos (by simp; omega) g1)))))
  subst e
  exact ⟨v, h0, h1, h2, g2 0 (by rw [getD_setb, if_pos ⟨rfl, by simp; omega⟩]), fun a ha => g4 a (by omega) ha⟩
theorem tr_cons (b : Bool) (v : List Bool) (s : Nat) : tr (b :: v) s = if b = true then (s : Int) :: tr v (s + 1) else tr v (s + 1) := rfl
theorem w2 (i f : Nat) (h : i + f < 4611686018427387904) : wrap64 (wrap64 ((i : Int) + (f : Int)) + 1) = ((i + f + 1 : Nat) : Int) := by rw [wrap_id ((i : Int) + (f : Int)) (by omega) (by omega), wrap_id _ (by omega) (by omega)]; omega
theorem tr_mem0 (v : List Bool) (j : Nat) (h : j < v.length) : decide ((j : Int) ∈ tr v 0) = v.getD j false := by
  have q := tr_mem v 0 j h
  rw [Nat.zero_add] at q
  rw [q, getD_get v j h]
def andL (v b : List Bool) : List Bool := List.zipWith (fun x y => x && y) v b
inductive Way (l : List S51) (x : Int) : Nat → Prop
  | zero : Way l x 0
  | step {a b : Nat} : Way l x a → (a : Int) ≠ x → (b : Int) ∈ nx l (a : Int) → Way l x b
def WU (l : List S51) (x : Int) (i j : Nat) : Prop := j = 0 ∨ ∃ a, a < i ∧ Way l x a ∧ (a : Int) ≠ x ∧ (j : Int) ∈ nx l (a : Int)
theorem nx_in (l : List S51) (h : GoodP l = true) (a : Nat) (y : Int) (hy : y ∈ nx l (a : Int)) : a < l.length ∧ (a : Int) < y ∧ y < (l.length : Int) := by
  by_cases ha : a < l.length
  · exact ⟨ha, (nx_all l h a ha).1 y hy⟩
  · unfold nx spec_l2Nexts.f at hy
    rw [if_pos (by omega), if_neg (by omega)] at hy
    simp at hy
theorem WU_iff (l : List S51) (h : GoodP l = true) (x : Int) (i j : Nat) (hj : j ≤ i) : WU l x i j ↔ Way l x j := by
  constructor
  · rintro (rfl | ⟨a, _, h1, h2, h3⟩)
    · exact Way.zero
    · exact Way.step h1 h2 h3
  · intro hw
    cases hw with
    | zero => exact Or.inl rfl
    | step h1 h2 h3 =>
      have := nx_in l h _ _ h3
      exact Or.inr ⟨_, by omega, h1, h2, h3⟩
theorem WU_succ (l : List S51) (x : Int) (i j : Nat) : WU l x (i + 1) j ↔ WU l x i j ∨ (Way l x i ∧ (i : Int) ≠ x) ∧ (j : Int) ∈ nx l (i : Int) := by
  constructor
  · rintro (rfl | ⟨a, h0, h1, h2, h3⟩)
    · exact Or.inl (Or.inl rfl)
    · by_cases e : a = i
      · subst e; exact Or.inr ⟨⟨h1, h2⟩, h3⟩
      · exact Or.inl (Or.inr ⟨a, by omega, h1, h2, h3⟩)
  · rintro ((rfl | ⟨a, h0, h1, h2, h3⟩) | ⟨⟨h1, h2⟩, h3⟩)
    · exact Or.inl rfl
    · exact Or.inr ⟨a, by omega, h1, h2, h3⟩
    · exact Or.inr ⟨i, by omega, h1, h2, h3⟩
def Bd (ways : List Int) (B : Nat) : Prop := ∀ j : Nat, 0 ≤ ways.getD j 0 ∧ ways.getD j 0 ≤ (B : Int)
theorem rd_getD (l : List Int) (j : Nat) : rd l (j : Int) = l.getD j 0 := by unfold rd; rw [Int.toNat_natCast]
theorem getD_seti (v : List Int) (x j : Nat) (b : Int) : (v.set x b).getD j 0 = if x = j ∧ x < v.length then b else v.getD j 0 := by
  simp only [List.getD, List.getElem?_set]
  by_cases h : x = j
  · subst h
    by_cases hx : x < v.length <;> simp [hx]
  · simp [h]
theorem way_inner (l : List S51) (a : Nat) (x : Int) (i : Nat) (t : List Int) (hn : l.length ≤ 20) (ht : ∀ y, y ∈ t → (i : Int) < y ∧ y < (l.length : Int)) (ht2 : t.length ≤ 2) (U : Nat → Prop) (Act Fin : Prop) (C : Nat) (hC : C ≤ 1099511627776) (hi : i < l.length)
    (cont : ∀ ways : List Int, ways.length = l.length → Bd ways C → (∀ j : Nat, j < l.length → ((j : Int) ≠ x ∨ i < j) → (0 < ways.getD j 0 ↔ U j ∨ Act ∧ (j : Int) ∈ t)) → ∃ r, Ev (fun k => impl_wayCount.l0 k l (a : Int) x ways (l.length : Int) (wrap64 ((i : Int) + 1))) r ∧ 0 ≤ r ∧ (0 < r ↔ Fin)) :
    ∀ (d j : Nat) (ways : List Int) (B : Nat), j + d = t.length → ways.length = l.length → Bd ways B → B * 2 ^ d ≤ C → (0 < ways.getD i 0 ↔ Act) → (∀ m : Nat, m < l.length → ((m : Int) ≠ x ∨ i < m) → (0 < ways.getD m 0 ↔ U m ∨ Act ∧ (m : Int) ∈ t.take j)) → ∃ r, Ev (fun k => impl_wayCount.l1 k l (a : Int) x ways (i : Int) (l.length : Int) (i : Int) t (t.length : Int) (j : Int)) r ∧ 0 ≤ r ∧ (0 < r ↔ Fin)
  | 0, j, ways, B, h, hw, hb, hB, hg, hu => by
    rw [List.take_of_length_le (show t.length ≤ j by omega)] at hu
    rw [Nat.pow_zero, Nat.mul_one] at hB
    obtain ⟨r, h1, h2, h3⟩ := cont ways hw (fun m => ⟨(hb m).1, by have := (hb m).2; omega⟩) hu
    exact ⟨r, Ev.step (fun k => impl_wayCount.l1.eq_2 ..) (Ev.neg (by omega) h1), h2, h3⟩
  | d + 1, j, ways, B, h, hw, hb, hB, hg, hu => by
    have hj := ht (t[j]'(by omega)) (List.getElem_mem ..)
    obtain ⟨y, hy⟩ := Int.eq_ofNat_of_zero_le (show 0 ≤ t[j]'(by omega) by omega)
    have hy2 := hj
    rw [hy] at hy2
    have hB2 : B * 2 * 2 ^ d ≤ C := by rw [Nat.mul_assoc, Nat.mul_comm 2, ← Nat.pow_succ]; exact hB
    have hpos : 1 ≤ 2 ^ d := Nat.one_le_two_pow
    have hBC : B * 2 ≤ C := Nat.le_trans (Nat.le_mul_of_pos_right _ hpos) hB2
    have b1 := hb y
    have b2 := hb i
    have ew : wrap64 (ways.getD y 0 + ways.getD i 0) = ways.getD y 0 + ways.getD i 0 := wrap_id _ (by omega) (by omega)
    have hset : ∀ m : Nat, (ways.set y (ways.getD y 0 + ways.getD i 0)).getD m 0 = if y = m then ways.getD y 0 + ways.getD i 0 else ways.getD m 0 := fun m => by
      rw [getD_seti]
      by_cases e : y = m
      · rw [if_pos ⟨e, by omega⟩, if_pos e]
      · rw [if_neg (fun q => e q.1), if_neg e]
    have htk : ∀ m : Nat, (m : Int) ∈ t.take (j + 1) ↔ (m : Int) ∈ t.take j ∨ y = m := fun m => by
      rw [List.take_succ_eq_append_getElem (show j < t.length by omega), List.mem_append, List.mem_singleton, hy]
      constructor
      · rintro (q | q)
        · exact Or.inl q
        · exact Or.inr (by omega)
      · rintro (q | q)
        · exact Or.inl q
        · exact Or.inr (by omega)
    clear hB hBC hpos
    obtain ⟨r, h1, h2, h3⟩ := way_inner l a x i t hn ht ht2 U Act Fin C hC hi cont d (j + 1) (ways.set y (ways.getD y 0 + ways.getD i 0)) (B * 2) (by omega) (by simpa using hw) (fun m => by
        rw [hset]
        split
        · omega
        · have := hb m; omega) hB2 (by rw [hset, if_neg (by omega)]; exact hg) (fun m hm hmx => by
        rw [hset, htk]
        by_cases e : y = m
        · subst e
          rw [if_pos rfl]
          have q := hu y hm hmx
          constructor
          · intro hs
            by_cases hz : 0 < ways.getD y 0
            · rcases q.1 hz with q | q
              · exact Or.inl q
              · exact Or.inr ⟨q.1, Or.inl q.2⟩
            · exact Or.inr ⟨hg.1 (by omega), Or.inr rfl⟩
          · rintro (q2 | ⟨q2, q3⟩)
            · have := q.2 (Or.inl q2); omega
            · have := hg.2 q2; omega
        · rw [if_neg e, hu m hm hmx]
          constructor
          · rintro (q | q)
            · exact Or.inl q
            · exact Or.inr ⟨q.1, Or.inl q.2⟩
          · rintro (q | ⟨q1, q2 | q2⟩)
            · exact Or.inl q
            · exact Or.inr ⟨q1, q2⟩
            · exact absurd q2 e)
    refine ⟨r, Ev.step (fun k => impl_wayCount.l1.eq_2 ..) ?_, h2, h3⟩
    rw [rd_nat t j (by omega), w1 j (by omega), hy, rd_getD, rd_getD, ew, Int.toNat_natCast]
    clear ew
    exact Ev.pos (by omega) (Ev.pos (by omega) (Ev.pos (by omega) (Ev.pos (by omega) (Ev.pos (by omega) (Ev.pos (by omega) (Ev.pos (by omega) h1))))))
theorem way_outer (l : List S51) (hg : GoodP l = true) (a : Nat) (ha : a < l.length) (x : Int) (hax : (a : Int) ≠ x) : ∀ (d i : Nat) (ways : List Int) (B : Nat), i + d = l.length → ways.length = l.length → Bd ways B → B * 4 ^ d ≤ 1099511627776 → (∀ j : Nat, j < l.length → ((j : Int) ≠ x ∨ i ≤ j) → (0 < ways.getD j 0 ↔ WU l x i j)) → ∃ r, Ev (fun k => impl_wayCount.l0 k l (a : Int) x ways (l.length : Int) (i : Int)) r ∧ 0 ≤ r ∧ (0 < r ↔ Way l x a)
  | 0, i, ways, B, h, hw, hb, hB, hu => by
    refine ⟨rd ways (a : Int), Ev.step (fun k => impl_wayCount.l0.eq_2 ..) (Ev.neg (by omega) (Ev.pos (by omega) (Ev.pos (by omega) (Ev.now _)))), ?_, ?_⟩
    · rw [rd_getD]; exact (hb a).1
    · rw [rd_getD, hu a ha (Or.inl hax)]; exact WU_iff l hg x i a (by omega)
  | d + 1, i, ways, B, h, hw, hb, hB, hu => by
    have hn := (GoodP_at hg).1
    obtain ⟨e1, e2, t2, _⟩ := nx_ev l hg i (by omega)
    have hup := (nx_all l hg i (by omega)).1
    have hB2 : B * 4 * 4 ^ d ≤ 1099511627776 := by rw [Nat.mul_assoc, Nat.mul_comm 4, ← Nat.pow_succ]; exact hB
    have hpos : 1 ≤ 4 ^ d := Nat.one_le_pow _ _ (by omega)
    have hBC : B * 4 ≤ 1099511627776 := Nat.le_trans (Nat.le_mul_of_pos_right _ hpos) hB2
    have hpw : B * 2 ^ (nx l (i : Int)).length ≤ B * 4 := Nat.mul_le_mul_left _ (Nat.pow_le_pow_right (n := 2) (by omega) t2)
    have key : ∀ ws : List Int, ws.length = l.length → Bd ws B → (0 < ws.getD i 0 ↔ Way l x i ∧ (i : Int) ≠ x) → (∀ j : Nat, j < l.length → ((j : Int) ≠ x ∨ i < j) → (0 < ws.getD j 0 ↔ WU l x i j)) → ∃ r, Ev (fun k => impl_wayCount.j1 k l (a : Int) x ws (i : Int) (l.length : Int) (i : Int)) r ∧ 0 ≤ r ∧ (0 < r ↔ Way l x a) := fun ws hws hbs hgs hus => by
      obtain ⟨r, h1, h2, h3⟩ := way_inner l a x i (nx l (i : Int)) hn.2 hup t2 (fun j => WU l x i j) (Way l x i ∧ (i : Int) ≠ x) (Way l x a) (B * 4) hBC (by omega) (fun ws2 hws2 hbs2 hus2 => by
        rw [w1 i (by omega)]
        exact way_outer l hg a ha x hax d (i + 1) ws2 (B * 4) (by omega) hws2 hbs2 hB2 (fun j hj hjx => (hus2 j hj (hjx.imp id (fun q => by omega))).trans (WU_succ l x i j).symm)) (nx l (i : Int)).length 0 ws B (by omega) hws hbs hpw hgs (fun m hm hmx => by
        rw [hus m hm hmx, List.take_zero]
        constructor
        · intro q; exact Or.inl q
        · rintro (q | q)
          · exact q
          · cases q.2)
      exact ⟨r, Ev.step (fun k => impl_wayCount.j1.eq_2 ..) (Ev.bindE e2 h1), h2, h3⟩
    clear hB hB2 hpos hBC hpw
    by_cases hx : (i : Int) = x
    · obtain ⟨r, h1, h2, h3⟩ := key (ways.set i 0) (by simpa using hw) (fun j => by
        rw [getD_seti]
        split
        · omega
        · exact hb j) (by
        rw [getD_seti, if_pos ⟨rfl, by omega⟩]
        constructor
        · intro q; omega
        · intro q; exact absurd hx q.2) (fun j hj hjx => by
        have hne : i ≠ j := by
          rcases hjx with q | q
          · intro e; subst e; exact q hx
          · omega
        rw [getD_seti, if_neg (fun q => hne q.1)]
        exact hu j hj (hjx.imp id (fun q => by omega)))
      exact ⟨r, Ev.step (fun k => impl_wayCount.l0.eq_2 ..) (Ev.pos (by omega) (Ev.pos hx (Ev.pos (by omega) (Ev.pos (by omega) h1)))), h2, h3⟩
    · obtain ⟨r, h1, h2, h3⟩ := key ways hw hb (by
        rw [hu i (by omega) (Or.inl hx), WU_iff l hg x i i (by omega)]
        exact ⟨fun q => ⟨q, hx⟩, fun q => q.1⟩) (fun j hj hjx => hu j hj (hjx.imp id (fun q => by omega)))
      exact ⟨r, Ev.step (fun k => impl_wayCount.l0.eq_2 ..) (Ev.pos (by omega) (Ev.neg hx h1)), h2, h3⟩
theorem way_zero (l : List S51) (hg : GoodP l = true) (a : Nat) (ha : a < l.length) (x : Int) (hax : (a : Int) ≠ x) : ∃ r, Ev (fun k => impl_wayCount.f k l (a : Int) x) r ∧ ((r == 0) = true ↔ ¬ Way l x a) := by
  have hn := (GoodP_at hg).1
  obtain ⟨r, h1, h2, h3⟩ := way_outer l hg a ha x hax l.length 0 ((List.replicate ((l.length : Int) : Int).toNat 0 : List Int).set (0 : Int).toNat 1) 1 (by omega) (by simp) (fun j => by
      rw [getD_seti]
      split
      · omega
      · have hr : (List.replicate ((l.length : Int) : Int).toNat (0 : Int)).getD j 0 = 0 := by simp only [List.getD, List.getElem?_replicate]; split <;> rfl
        rw [hr]; omega) (by
      rw [Nat.one_mul]
      exact Nat.le_trans (Nat.pow_le_pow_right (n := 4) (by omega) hn.2) (by decide)) (fun j hj _ => by
      rw [getD_seti]
      have hr : (List.replicate ((l.length : Int) : Int).toNat (0 : Int)).getD j 0 = 0 := by simp only [List.getD, List.getElem?_replicate]; split <;> rfl
      rw [hr]
      unfold WU
      by_cases e : j = 0
      · subst e
        rw [if_pos ⟨rfl, by simp; omega⟩]
        exact ⟨fun _ => Or.inl rfl, fun _ => by omega⟩
      · rw [if_neg (fun q => e q.1.symm)]
        constructor
        · intro q; omega
        · rintro (q | ⟨b, q, _⟩)
          · exact absurd q e
          · omega)
  refine ⟨r, ?_, ?_⟩
  · unfold impl_wayCount.f
    exact Ev.pos (by omega) (Ev.pos (by omega) (Ev.bindE rfl (Ev.pos (by simp; omega) h1)))
  · rw [beq_iff_eq, ← h3]; omega
theorem reach3_inner (l : List S51) (hn : l.length ≤ 20) (i : Nat) (t : List Int) (ht2 : t.length ≤ 2) (ht : ∀ x, x ∈ t → (i : Int) < x ∧ x < (l.length : Int)) (R : List Bool → Nat → Prop)
    (cont : ∀ v : List Bool, v.length = l.length → ∃ v', v'.length = l.length ∧ Ev (fun k => impl_reachable.l0 k l v (l.length : Int) (wrap64 ((i : Int) + 1))) v' ∧ (∀ j, v.getD j false = true → v'.getD j false = true) ∧ (∀ j, v'.getD j false = true → v.getD j false = true ∨ R v' j)) :
    ∀ (d j : Nat) (v : List Bool), j + d = t.length → v.length = l.length → ∃ v', v'.length = l.length ∧ Ev (fun k => impl_reachable.l1 k l v (l.length : Int) (i : Int) t (t.length : Int) (j : Int)) v' ∧ (∀ j, v.getD j false = true → v'.getD j false = true) ∧ (∀ m : Nat, v'.getD m false = true → v.getD m false = true ∨ (m : Int) ∈ t ∨ R v' m)
  | 0, j, v, h, hv => by
    obtain ⟨v', h0, h1, h2, h3⟩ := cont v hv
    exact ⟨v', h0, Ev.step (fun k => impl_reachable.l1.eq_2 ..) (Ev.neg (by omega) h1), h2, fun m hm => (h3 m hm).imp id Or.inr⟩
  | d + 1, j, v, h, hv => by
    have hj := ht (t[j]'(by omega)) (List.getElem_mem ..)
    have hmem : t[j]'(by omega) ∈ t := List.getElem_mem ..
    obtain ⟨x, hx⟩ := Int.eq_ofNat_of_zero_le (show 0 ≤ t[j]'(by omega) by omega)
    rw [hx] at hj hmem
    obtain ⟨v', h0, h1, h2, h3⟩ := reach3_inner l hn i t ht2 ht R cont d (j + 1) (v.set x true) (by omega) (by simpa using hv)
    refine ⟨v', h0, Ev.step (fun k => impl_reachable.l1.eq_2 ..) ?_, fun a ha => h2 a ?_, fun m hm => ?_⟩
    · rw [rd_nat t j (by omega), w1 j (by omega), hx]
      exact Ev.pos (by omega) (Ev.pos (by omega) (Ev.pos (by omega) (Ev.pos (by omega) (Ev.pos (by omega) h1))))
    · rw [getD_setb]; split
      · rfl
      · exact ha
    · rcases h3 m hm with q | q
      · rw [getD_setb] at q
        by_cases e : x = m
        · subst e; exact Or.inr (Or.inl hmem)
        · rw [if_neg (fun q2 => e q2.1)] at q; exact Or.inl q
      · exact Or.inr q
theorem reach3_outer (l : List S51) (hg : GoodP l = true) : ∀ (d i : Nat) (v : List Bool), i + d = l.length → v.length = l.length → ∃ v', v'.length = l.length ∧ Ev (fun k => impl_reachable.l0 k l v (l.length : Int) (i : Int)) v' ∧ (∀ j, v.getD j false = true → v'.getD j false = true) ∧ (∀ j : Nat, v'.getD j false = true → v.getD j false = true ∨ ∃ a : Nat, v'.getD a false = true ∧ (j : Int) ∈ nx l (a : Int))
  | 0, i, v, h, hv => ⟨v, hv, Ev.step (fun k => impl_reachable.l0.eq_2 ..) (Ev.neg (by omega) (Ev.now _)), fun _ h => h, fun _ h => Or.inl h⟩
  | d + 1, i, v, h, hv => by
    have hn := (GoodP_at hg).1
    by_cases hb : v[i]'(by omega) = true
    · obtain ⟨e, e2, t2, _⟩ := nx_ev l hg i (by omega)
      obtain ⟨v', h0, h1, h2, h3⟩ := reach3_inner l hn.2 i (nx l (i : Int)) t2 (nx_all l hg i (by omega)).1 (fun v' j => ∃ a : Nat, v'.getD a false = true ∧ (j : Int) ∈ nx l (a : Int)) (fun w hw => by
        rw [w1 i (by omega)]
        exact reach3_outer l hg d (i + 1) w (by omega) hw) (nx l (i : Int)).length 0 v (by omega) hv
      refine ⟨v', h0, Ev.step (fun k => impl_reachable.l0.eq_2 ..) ?_, h2, fun j hj => ?_⟩
      · rw [rdOf_bool v i (by omega)]
        exact Ev.pos (by omega) (Ev.pos (by omega) (Ev.pos (by omega) (Ev.pos hb (Ev.bindE e2 h1))))
      · rcases h3 j hj with q | q | q
        · exact Or.inl q
        · exact Or.inr ⟨i, h2 i (by rw [getD_get v i (by omega)]; exact hb), q⟩
        · exact Or.inr q
    · obtain ⟨v', h0, h1, h2, h3⟩ := reach3_outer l hg d (i + 1) v (by omega) hv
      refine ⟨v', h0, Ev.step (fun k => impl_reachable.l0.eq_2 ..) ?_, h2, h3⟩
      rw [rdOf_bool v i (by omega), w1 i (by omega)]
      exact Ev.pos (by omega) (Ev.pos (by omega) (Ev.pos (by omega) (Ev.neg hb h1)))
theorem reach_way (l : List S51) (hg : GoodP l = true) : ∃ v : List Bool, v.length = l.length ∧ Ev (fun k => impl_reachable.f k l 0) v ∧ Ev (fun k => spec_l11Reached.f k l 0) (tr v 0) ∧ ∀ j : Nat, v.getD j false = true ↔ Way l (-1) j := by
  have hn := (GoodP_at hg).1
  obtain ⟨v, h0, h1, h2, hv0, hcl⟩ := reach2_zero l hg
  obtain ⟨v', g0, g1, g2, g3⟩ := reach3_outer l hg l.length 0 ((List.replicate ((l.length : Int) : Int).toNat false : List Bool).set (0 : Int).toNat true) (by omega) (by simp)
  have e : v = v' := Ev.one h1 (by
    unfold impl_reachable.f
    exact Ev.pos (by omega) (Ev.pos (by omega) (Ev.bindE rfl (Ev.pos (by omega) (Ev.pos (by simp; omega) g1)))))
  subst e
  have up : ∀ m j : Nat, j < m → v.getD j false = true → Way l (-1) j := by
    intro m
    induction m with
    | zero => intro j hj; omega
    | succ m ih =>
      intro j hj hv
      rcases g3 j hv with q | ⟨a, q1, q2⟩
      · rw [getD_setb] at q
        by_cases e : (0 : Int).toNat = j
        · rw [← e]; exact Way.zero
        · rw [if_neg (fun q2 => e q2.1)] at q
          have hr : (List.replicate ((l.length : Int) : Int).toNat false).getD j false = false := by simp only [List.getD, List.getElem?_replicate]; split <;> rfl
          rw [hr] at q; cases q
      · have := nx_in l hg a _ q2
        exact Way.step (ih a (by omega) q1) (by omega) q2
  refine ⟨v, h0, h1, h2, fun j => ⟨fun hj => up (j + 1) j (by omega) hj, fun hw => ?_⟩⟩
  induction hw with
  | zero => exact hv0
  | step _ _ h3 ih =>
    have := nx_in l hg _ _ h3
    have q := hcl _ this.1 ih _ h3
    rwa [Int.toNat_natCast] at q
theorem Way.reached {l : List S51} {x : Int} {j : Nat} (h : Way l x j) : Way l (-1) j := by
  induction h with
  | zero => exact Way.zero
  | step _ _ h3 ih => exact Way.step ih (by omega) h3
theorem Way.low {l : List S51} (hg : GoodP l = true) {j : Nat} (h : Way l (-1) j) : ∀ x : Int, (j : Int) ≤ x → Way l x j := by
  induction h with
  | zero => exact fun _ _ => Way.zero
  | step _ _ h3 ih =>
    intro x hx
    have := nx_in l hg _ _ h3
    exact Way.step (ih x (by omega)) (by omega) h3
theorem flt_ge (β : Nat → Bool) : ∀ (d i : Nat) (x : Int), x ∈ flt β d i → (i : Int) ≤ x
  | 0, _, _, h => by simp [flt] at h
  | d + 1, i, x, h => by
    unfold flt at h
    split at h
    · rcases List.mem_cons.1 h with h | h
      · omega
      · have := flt_ge β d (i + 1) x h; omega
    · have := flt_ge β d (i + 1) x h; omega
theorem flt_lt (β : Nat → Bool) : ∀ (d i : Nat) (x : Int), x ∈ flt β d i → x < ((i + d : Nat) : Int)
  | 0, _, _, h => by simp [flt] at h
  | d + 1, i, x, h => by
    unfold flt at h
    split at h
    · rcases List.mem_cons.1 h with h | h
      · omega
      · have := flt_lt β d (i + 1) x h; omega
    · have := flt_lt β d (i + 1) x h; omega
theorem flt_mem (β : Nat → Bool) : ∀ (d i j : Nat), i ≤ j → j < i + d → ((j : Int) ∈ flt β d i ↔ β j = true)
  | 0, i, j, h1, h2 => by omega
  | d + 1, i, j, h1, h2 => by
    by_cases e : i = j
    · subst e
      have hno : ¬ (i : Int) ∈ flt β d (i + 1) := fun h => by have := flt_ge β d (i + 1) _ h; omega
      unfold flt
      by_cases hb : β i = true
      · rw [if_pos hb]; simp [hb]
      · rw [if_neg hb]; exact ⟨fun h => absurd h hno, fun h => absurd h hb⟩
    · have ih := flt_mem β d (i + 1) j (by omega) (by omega)
      unfold flt
      split
      · rw [List.mem_cons, ih]
        exact ⟨fun h => h.elim (fun q => by omega) id, Or.inr⟩
      · exact ih
theorem flt_filter (β : Nat → Bool) (p : Int → Bool) (γ : Nat → Bool) : ∀ (d i : Nat), (∀ j, i ≤ j → j < i + d → p (j : Int) = γ j) → (flt β d i).filter p = flt (fun j => β j && γ j) d i
  | 0, _, _ => rfl
  | d + 1, i, h => by
    have ih := flt_filter β p γ d (i + 1) (fun j h1 h2 => h j (by omega) (by omega))
    unfold flt
    by_cases hb : β i = true
    · rw [if_pos hb]
      by_cases hp : γ i = true
      · rw [List.filter_cons_of_pos (by rw [h i (by omega) (by omega)]; exact hp), ih]; simp [hb, hp]
      · rw [List.filter_cons_of_neg (by rw [h i (by omega) (by omega)]; exact hp), ih]; simp [hb, hp]
    · rw [if_neg hb, ih]; simp [hb]
theorem flt_congr (β γ : Nat → Bool) : ∀ (d i : Nat), (∀ j, i ≤ j → j < i + d → β j = γ j) → flt β d i = flt γ d i
  | 0, _, _ => rfl
  | d + 1, i, h => by
    have ih := flt_congr β γ d (i + 1) (fun j h1 h2 => h j (by omega) (by omega))
    unfold flt
    rw [h i (by omega) (by omega), ih]
theorem flt_none (β : Nat → Bool) : ∀ (d i : Nat), (∀ j, i ≤ j → j < i + d → β j = false) → flt β d i = []
  | 0, _, _ => rfl
  | d + 1, i, h => by
    unfold flt
    rw [h i (by omega) (by omega), if_neg (by simp)]
    exact flt_none β d (i + 1) (fun j h1 h2 => h j (by omega) (by omega))
theorem flt_snoc (β γ : Nat → Bool) (a : Nat) (hb : ∀ j, a ≤ j → β j = false) (hγ : ∀ j, γ j = (β j || decide (j = a))) : ∀ (d i : Nat), i ≤ a → a < i + d → flt β d i ++ [(a : Int)] = flt γ d i
  | 0, i, h1, h2 => by omega
  | d + 1, i, h1, h2 => by
    by_cases e : i = a
    · subst e
      rw [flt_none β (d + 1) i (fun j hj _ => hb j hj)]
      unfold flt
      rw [if_pos (by rw [hγ]; simp), flt_none γ d (i + 1) (fun j hj _ => by rw [hγ, hb j (by omega)]; simp; omega)]
      rfl
    · have ih := flt_snoc β γ a hb hγ d (i + 1) (by omega) (by omega)
      have eg : γ i = β i := by rw [hγ]; simp [e]
      unfold flt
      rw [eg]
      split
      · rw [List.cons_append, ih]
      · exact ih
open Classical in
noncomputable def domB (l : List S51) (a x : Nat) : Bool := decide (¬ Way l (x : Int) a)
open Classical in
noncomputable def mustL (l : List S51) (a : Nat) : List Int := flt (fun x => domB l a x || decide (x = a)) l.length 0
open Classical in
theorem domB_true {l : List S51} {a x : Nat} : domB l a x = true ↔ ¬ Way l (x : Int) a := by unfold domB; exact decide_eq_true_iff
theorem domB_false {l : List S51} {a x : Nat} (h : Way l (x : Int) a) : domB l a x = false := Bool.eq_false_iff.mpr (fun q => domB_true.1 q h)
theorem domB_hi {l : List S51} (hg : GoodP l = true) {a : Nat} (h : Way l (-1) a) (x : Nat) (hx : a ≤ x) : domB l a x = false := by
  exact domB_false (h.low hg x (by omega))
theorem mustPass_ev (l : List S51) (hg : GoodP l = true) (a : Nat) (ha : a < l.length) : Ev (fun k => impl_mustPass.f k l (a : Int)) (mustL l a) := by
  have hn := (GoodP_at hg).1
  unfold impl_mustPass.f mustL
  refine impl_mustPass_lst (fun k => impl_mustPass.pr k l (a : Int)) l.length (by omega) _ (fun i hi => ?_)
  unfold impl_mustPass.pr
  by_cases e : i = a
  · subst e
    exact Ev.pos rfl (Ev.at_ (Ev.now _) (by simp))
  · obtain ⟨r, h1, h2⟩ := way_zero l hg a ha (i : Int) (by omega)
    refine Ev.neg (by omega) (Ev.bind h1 (Ev.at_ (Ev.now _) ?_))
    have e2 : (decide (i = a)) = false := decide_eq_false e
    simp only [e2, Bool.or_false]
    by_cases hw : Way l (i : Int) a
    · rw [domB_false hw]
      exact Bool.eq_false_iff.mpr (fun q => h2.1 q hw)
    · rw [domB_true.2 hw]; exact h2.2 hw
theorem must_l2 (row all : List Int) (hr : row.length ≤ 20) (ha : all.length ≤ 20) : ∀ (d i : Nat) (o : List Int), i + d = all.length → o.length ≤ i → Ev (fun k => spec_l11Must.l2 k row all o (i : Int)) (o ++ (all.drop i).filter (fun x => decide (x ∈ row)))
  | 0, i, o, h, ho => by
    rw [List.drop_eq_nil_of_le (by omega)]
    exact Ev.step (fun k => spec_l11Must.l2.eq_2 ..) (Ev.neg (by omega) (Ev.at_ (Ev.now _) (by simp)))
  | d + 1, i, o, h, ho => by
    have hi : i < all.length := by omega
    refine Ev.step (fun k => spec_l11Must.l2.eq_2 ..) (Ev.pos (by omega) (Ev.pos (by omega) ?_))
    rw [rd_nat all i hi, w1 i (by omega), List.drop_eq_getElem_cons hi]
    refine Ev.bind (l1Has_ev row all[i] (by omega)) ?_
    by_cases hx : all[i] ∈ row
    · rw [List.filter_cons_of_pos (by rw [decide_eq_true hx])]
      refine Ev.pos (decide_eq_true hx) (Ev.pos (by omega) (Ev.at_ (must_l2 row all hr ha d (i + 1) (o ++ [all[i]]) (by omega) (by simp; omega)) ?_))
      simp
    · rw [List.filter_cons_of_neg (by rw [decide_eq_false hx]; simp)]
      exact Ev.neg (by rw [decide_eq_false hx]; simp) (must_l2 row all hr ha d (i + 1) o (by omega) (by omega))
theorem must_l1 (n : Nat) (hn : n ≤ 20) (rows : List (List Int)) (hrows : rows.length = n) (μ : Nat → Nat → Bool) (A : List Int) (hA20 : A.length ≤ 20) (hA : ∀ y, y ∈ A → 0 ≤ y ∧ y < (n : Int) ∧ rows.getD y.toNat [] = flt (μ y.toNat) n 0) :
    ∀ (d i : Nat) (γ : Nat → Bool), i + d = A.length → 0 < i → Ev (fun k => spec_l11Must.l1 k rows A (flt γ n 0) (i : Int)) (flt (fun x => γ x && (A.drop i).all (fun y => μ y.toNat x)) n 0)
  | 0, i, γ, h, h0 => by
    rw [List.drop_eq_nil_of_le (by omega)]
    exact Ev.step (fun k => spec_l11Must.l1.eq_2 ..) (Ev.neg (by omega) (Ev.at_ (Ev.now _) (by simp)))
  | d + 1, i, γ, h, h0 => by
    have hi : i < A.length := by omega
    obtain ⟨a1, a2, a3⟩ := hA A[i] (List.getElem_mem ..)
    have hg := flt_len γ n 0
    have hm := flt_len (μ A[i].toNat) n 0
    refine Ev.step (fun k => spec_l11Must.l1.eq_2 ..) (Ev.pos (by omega) (Ev.pos (by omega) ?_))
    rw [rd_nat A i hi, w1 i (by omega), a3]
    refine Ev.pos a1 (Ev.pos (by omega) (Ev.neg (by omega) (Ev.bind (must_l2 (flt (μ A[i].toNat) n 0) (flt γ n 0) (by omega) (by omega) (flt γ n 0).length 0 [] (by omega) (by simp)) ?_)))
    rw [List.drop_zero, List.nil_append, flt_filter γ _ (μ A[i].toNat) n 0 (fun j _ hj => by
      have q := flt_mem (μ A[i].toNat) n 0 j (by omega) hj
      by_cases hb : μ A[i].toNat j = true
      · rw [hb]; exact decide_eq_true (q.2 hb)
      · rw [Bool.eq_false_iff.mpr hb]; exact decide_eq_false (fun h => hb (q.1 h)))]
    refine Ev.at_ (must_l1 n hn rows hrows μ A hA20 hA d (i + 1) (fun j => γ j && μ A[i].toNat j) (by omega) (by omega)) ?_
    refine flt_congr _ _ n 0 (fun j _ _ => ?_)
    rw [List.drop_eq_getElem_cons hi, List.all_cons, Bool.and_assoc]
theorem must_l1_0 (n : Nat) (hn : n ≤ 20) (rows : List (List Int)) (hrows : rows.length = n) (μ : Nat → Nat → Bool) (A : List Int) (hA20 : A.length ≤ 20) (hA : ∀ y, y ∈ A → 0 ≤ y ∧ y < (n : Int) ∧ rows.getD y.toNat [] = flt (μ y.toNat) n 0) :
    Ev (fun k => spec_l11Must.l1 k rows A [] 0) (if A = [] then [] else flt (fun x => A.all (fun y => μ y.toNat x)) n 0) := by
  by_cases hz : A = []
  · rw [if_pos hz]; subst hz
    exact Ev.step (fun k => spec_l11Must.l1.eq_2 ..) (Ev.neg (by simp) (Ev.now _))
  · rw [if_neg hz]
    have hi : 0 < A.length := List.length_pos_iff.2 hz
    obtain ⟨a1, a2, a3⟩ := hA A[0] (List.getElem_mem ..)
    have h := must_l1 n hn rows hrows μ A hA20 hA (A.length - 1) 1 (μ A[0].toNat) (by omega) (by omega)
    refine Ev.step (fun k => spec_l11Must.l1.eq_2 ..) (Ev.pos (by omega) (Ev.pos (by omega) ?_))
    have e0 : rd A 0 = A[0] := rd_nat A 0 hi
    have e1 : wrap64 (0 + 1) = ((1 : Nat) : Int) := w1 0 (by omega)
    rw [e0, e1, a3]
    refine Ev.pos a1 (Ev.pos (by omega) (Ev.pos rfl (Ev.at_ h ?_)))
    refine flt_congr _ _ n 0 (fun j _ _ => ?_)
    have ed : A = A[0] :: A.drop 1 := by
      have := List.drop_eq_getElem_cons hi
      rwa [List.drop_zero] at this
    conv => rhs; rw [ed]
    rw [List.all_cons]
theorem getD_setr (v : List (List Int)) (x j : Nat) (b : List Int) : (v.set x b).getD j [] = if x = j ∧ x < v.length then b else v.getD j [] := by
  simp only [List.getD, List.getElem?_set]
  by_cases h : x = j
  · subst h
    by_cases hx : x < v.length <;> simp [hx]
  · simp [h]
theorem must_loop (l : List S51) (hg : GoodP l = true) (v : List Bool) (hv : v.length = l.length) (hr : Ev (fun k => spec_l11Reached.f k l 0) (tr v 0)) (hw : ∀ j : Nat, v.getD j false = true ↔ Way l (-1) j) :
    ∀ (d i m : Nat) (rows : List (List Int)), i + d = l.length → (tr v 0).drop m = tr (v.drop i) i → m ≤ (tr v 0).length → rows.length = l.length → (∀ j : Nat, rows.getD j [] = if j < i ∧ v.getD j false = true then mustL l j else []) → ∃ rows', Ev (fun k => spec_l11Must.l0 k l (tr v 0) rows (m : Int)) rows' ∧ rows'.length = l.length ∧ ∀ j : Nat, rows'.getD j [] = if v.getD j false = true then mustL l j else []
  | 0, i, m, rows, h, ht, hm, hl, hj => by
    rw [List.drop_eq_nil_of_le (show v.length ≤ i by omega)] at ht
    have hq := congrArg List.length ht
    rw [List.length_drop] at hq
    simp only [tr, List.length_nil] at hq
    refine ⟨rows, Ev.step (fun k => spec_l11Must.l0.eq_2 ..) (Ev.neg (by omega) (Ev.now _)), hl, fun j => ?_⟩
    rw [hj j]
    by_cases hji : j < i
    · simp only [hji, true_and]
    · have hf : v.getD j false = false := by simp only [List.getD, List.getElem?_eq_none (show v.length ≤ j by omega)]; rfl
      rw [hf, if_neg (fun q => by cases q.2), if_neg (by simp)]
  | d + 1, i, m, rows, h, ht, hm, hl, hj => by
    have hn := (GoodP_at hg).1
    have hi : i < v.length := by omega
    have hlen := tr_len v 0
    rw [List.drop_eq_getElem_cons hi, tr_cons] at ht
    by_cases hb1 : v[i] = true
    · rw [if_pos hb1] at ht
      have hml : m < (tr v 0).length := by
        have hq := congrArg List.length ht
        rw [List.length_drop, List.length_cons] at hq; omega
      rw [List.drop_eq_getElem_cons hml] at ht
      obtain ⟨hx, ht⟩ := List.cons.inj ht
      have hwi : Way l (-1) i := (hw i).1 (by rw [getD_get v i hi]; exact hb1)
      have hA := ahead_ev l hg (i : Int) v hv hr
      have hmem : ∀ a : Nat, (a : Int) ∈ flt (fun j => v.getD j false && decide ((i : Int) ∈ nx l (j : Int))) l.length 0 ↔ (Way l (-1) a ∧ (i : Int) ∈ nx l (a : Int)) := fun a => by
        by_cases ha : a < l.length
        · rw [flt_mem _ l.length 0 a (by omega) (by omega), Bool.and_eq_true, hw a, decide_eq_true_iff]
        · constructor
          · intro q; have := flt_lt _ _ _ _ q; omega
          · intro q; have := nx_in l hg a _ q.2; omega
      have hall := must_l1_0 l.length (by omega) rows hl (fun k x => domB l k x || decide (x = k)) (flt (fun j => v.getD j false && decide ((i : Int) ∈ nx l (j : Int))) l.length 0) (by have := flt_len (fun j => v.getD j false && decide ((i : Int) ∈ nx l (j : Int))) l.length 0; omega) (fun y hy => by
        have y0 := flt_ge _ _ _ _ hy
        have y1 := flt_lt _ _ _ _ hy
        obtain ⟨a, rfl⟩ := Int.eq_ofNat_of_zero_le (show 0 ≤ y by omega)
        have q := (hmem a).1 hy
        have q2 := nx_in l hg a _ q.2
        refine ⟨by omega, by omega, ?_⟩
        rw [Int.toNat_natCast, hj a, if_pos ⟨by omega, (hw a).2 q.1⟩]
        rfl)
      have hdom : (if flt (fun j => v.getD j false && decide ((i : Int) ∈ nx l (j : Int))) l.length 0 = [] then [] else flt (fun x => (flt (fun j => v.getD j false && decide ((i : Int) ∈ nx l (j : Int))) l.length 0).all (fun y => domB l y.toNat x || decide (x = y.toNat))) l.length 0) = flt (domB l i) l.length 0 := by
        by_cases hi0 : i = 0
        · subst hi0
          have e2 : flt (domB l 0) l.length 0 = [] := flt_none _ _ _ (fun j _ _ => domB_false Way.zero)
          rw [e2, if_pos]
          exact flt_none _ _ _ (fun j _ _ => by
            have : ¬ ((0 : Nat) : Int) ∈ nx l (j : Int) := fun q => by have := nx_in l hg j _ q; omega
            rw [decide_eq_false this, Bool.and_false])
        · rw [if_neg (fun hz => by
            cases hwi with
            | zero => exact hi0 rfl
            | step h1 h2 h3 =>
              have := (hmem _).2 ⟨h1, h3⟩
              rw [hz] at this
              cases this)]
          refine flt_congr _ _ _ _ (fun x _ _ => ?_)
          rw [Bool.eq_iff_iff, List.all_eq_true, domB_true]
          constructor
          · intro ha hway
            cases hway with
            | zero => exact hi0 rfl
            | @step a _ h1 h2 h3 =>
              have q := ha (a : Int) ((hmem a).2 ⟨h1.reached, h3⟩)
              rw [Int.toNat_natCast, Bool.or_eq_true, domB_true, decide_eq_true_iff] at q
              rcases q with q | q
              · exact q h1
              · exact h2 (by omega)
          · intro hno y hy
            have y0 := flt_ge _ _ _ _ hy
            obtain ⟨a, rfl⟩ := Int.eq_ofNat_of_zero_le (show 0 ≤ y by omega)
            have q := (hmem a).1 hy
            rw [Int.toNat_natCast, Bool.or_eq_true, domB_true, decide_eq_true_iff]
            by_cases hxa : x = a
            · exact Or.inr hxa
            · exact Or.inl (fun hwx => hno (Way.step hwx (by omega) q.2))
      rw [hdom] at hall
      have hsn := flt_snoc (domB l i) (fun x => domB l i x || decide (x = i)) i (domB_hi hg hwi) (fun _ => rfl) l.length 0 (by omega) (by omega)
      have hfl := flt_len (domB l i) l.length 0
      obtain ⟨rows', g1, g2, g3⟩ := must_loop l hg v hv hr hw d (i + 1) (m + 1) (rows.set i (mustL l i)) (by omega) ht (by omega) (by simpa using hl) (fun j => by
        rw [getD_setr]
        by_cases e : i = j
        · subst e; rw [if_pos ⟨rfl, by omega⟩, if_pos ⟨by omega, by rw [getD_get v i hi]; exact hb1⟩]
        · rw [if_neg (fun q => e q.1), hj j]
          by_cases hji : j < i
          · have : j < i + 1 := by omega
            simp only [hji, this]
          · have h2 : ¬ j < i + 1 := by omega
            simp only [hji, h2, false_and])
      refine ⟨rows', Ev.step (fun k => spec_l11Must.l0.eq_2 ..) ?_, g2, g3⟩
      rw [rd_nat (tr v 0) m hml, w1 m (by omega), hx]
      refine Ev.pos (by omega) (Ev.pos (by omega) (Ev.bind hA (Ev.bind hall (Ev.pos (by omega) (Ev.pos (by omega) (Ev.pos (by omega) ?_))))))
      rw [Int.toNat_natCast, hsn]
      exact g1
    · rw [if_neg hb1] at ht
      obtain ⟨rows', g1, g2, g3⟩ := must_loop l hg v hv hr hw d (i + 1) m rows (by omega) ht hm hl (fun j => by
        rw [hj j]
        by_cases e : j = i
        · subst e
          rw [getD_get v j hi, Bool.eq_false_iff.mpr hb1, if_neg (fun q => by cases q.2), if_neg (fun q => by cases q.2)]
        · by_cases hji : j < i
          · have : j < i + 1 := by omega
            simp only [hji, this]
          · have h2 : ¬ j < i + 1 := by omega
            simp only [hji, h2, false_and])
      exact ⟨rows', g1, g2, g3⟩
theorem l11Must_ev (l : List S51) (hg : GoodP l = true) (v : List Bool) (hv : v.length = l.length) (hr : Ev (fun k => spec_l11Reached.f k l 0) (tr v 0)) (hw : ∀ j : Nat, v.getD j false = true ↔ Way l (-1) j) : ∃ rows, Ev (fun k => spec_l11Must.f k l) rows ∧ rows.length = l.length ∧ ∀ j : Nat, rows.getD j [] = if v.getD j false = true then mustL l j else [] := by
  have hn := (GoodP_at hg).1
  obtain ⟨rows, h1, h2, h3⟩ := must_loop l hg v hv hr hw l.length 0 0 (List.replicate l.length []) (by omega) (by rw [List.drop_zero, List.drop_zero]) (by omega) (by simp) (fun j => by
    rw [if_neg (fun q => absurd q.1 (Nat.not_lt_zero j))]
    simp only [List.getD, List.getElem?_replicate]; split <;> rfl)
  refine ⟨rows, ?_, h2, h3⟩
  unfold spec_l11Must.f
  exact Ev.pos ⟨by omega, by omega⟩ (Ev.bind hr h1)
theorem mustL_len (l : List S51) (a : Nat) : (mustL l a).length ≤ l.length := flt_len _ _ _
theorem mustPass_both (l : List S51) (a : Int) (hl : l.length ≤ 1048576) : Both (fun r => r.1.length ≤ 1048576) (fun k => spec_MustPass.f k l a) (fun k => impl_MustPass.f k l a) := by
  unfold spec_MustPass.f impl_MustPass.f
  refine Both.bindL (there_ev l a hl) (Both.bindR (isStep_ev l a hl) (Both.ite (fun h => ?_) (fun _ => Both.now _ (by simp))))
  rw [Bool.and_eq_true] at h
  have hn := (GoodP_at h.1).1
  have ha := In_true.1 h.2
  obtain ⟨b, rfl⟩ := Int.eq_ofNat_of_zero_le ha.1
  obtain ⟨v, hv, h1, h2, hw⟩ := reach_way l h.1
  obtain ⟨rows, g1, g2, g3⟩ := l11Must_ev l h.1 v hv h2 hw
  have hlen := tr_len v 0
  have hh := l1Has_ev (tr v 0) (b : Int) (by omega)
  rw [tr_mem0 v b (by omega)] at hh
  refine Both.bindL h2 (Both.bindL hh (Both.bindR h1 (Both.posR (by omega) (Both.posR (by omega) ?_))))
  rw [rdOf_bool v b (by omega), ← getD_get v b (by omega)]
  refine Both.ite (fun hb => ?_) (fun _ => Both.now _ (by simp))
  have hm := mustL_len l b
  have e : rd_L4 rows (b : Int) = mustL l b := by
    show rows.getD (b : Int).toNat [] = _
    rw [Int.toNat_natCast, g3 b, if_pos hb]
  refine Both.bindEL rfl (Both.bindL g1 (Both.posL (by omega) (Both.posL (by omega) ?_)))
  rw [e]
  refine Both.posL (by simp only [List.length_nil]; omega) (Both.bindR (mustPass_ev l h.1 b (by omega)) ?_)
  rw [List.nil_append]
  exact Both.now _ (by simp only; omega)
theorem Way.zero_only {l : List S51} {j : Nat} (h : Way l 0 j) : j = 0 := by
  induction h with
  | zero => rfl
  | step _ h2 _ ih => subst ih; exact absurd rfl h2
theorem mustL_zero (l : List S51) (hg : GoodP l = true) : mustL l 0 = [0] := by
  have hn := (GoodP_at hg).1
  have h := flt_snoc (domB l 0) (fun x => domB l 0 x || decide (x = 0)) 0 (domB_hi hg Way.zero) (fun _ => rfl) l.length 0 (by omega) (by omega)
  rw [flt_none _ _ _ (fun j _ _ => domB_false Way.zero)] at h
  exact h.symm
theorem mustL_two (l : List S51) (hg : GoodP l = true) (i : Nat) (hi : i < l.length) (h0 : 0 < i) : 2 ≤ (mustL l i).length := by
  obtain ⟨m, hm⟩ : ∃ m, l.length = m + 1 := ⟨l.length - 1, by omega⟩
  have hz : (domB l i 0 || decide (0 = i)) = true := by
    rw [domB_true.2 (fun q => by have := Way.zero_only q; omega), Bool.true_or]
  have hmem := (flt_mem (fun x => domB l i x || decide (x = i)) m 1 i (by omega) (by omega)).2 (by simp)
  have hpos := List.length_pos_of_mem hmem
  unfold mustL
  rw [hm]
  unfold flt
  rw [if_pos hz, List.length_cons]
  have : (0 : Nat) + 1 = 1 := rfl
  rw [this]
  omega
theorem near_loop (l : List S51) (hg : GoodP l = true) (v : List Bool) (hv : v.length = l.length) (rows : List (List Int)) (hrl : rows.length = l.length) (hrows : ∀ j : Nat, rows.getD j [] = if v.getD j false = true then mustL l j else []) : ∀ (d i : Nat) (o : List Int), i + d = l.length → o.length ≤ i → Both (fun r => r.1.length ≤ 20) (fun k => spec_NearestOf.l0 k o rows (rows.length : Int) (i : Int)) (fun k => impl_NearestOf.l0 k l v o (l.length : Int) (i : Int))
  | 0, i, o, h, ho => by
    have hn := (GoodP_at hg).1
    exact Both.stepL (fun k => spec_NearestOf.l0.eq_2 ..) (Both.stepR (fun k => impl_NearestOf.l0.eq_2 ..) (Both.negL (by omega) (Both.negR (by omega) (Both.now _ (by simp only; omega)))))
  | d + 1, i, o, h, ho => by
    have hn := (GoodP_at hg).1
    have e : rd_L4 rows (i : Int) = if v.getD i false = true then mustL l i else [] := by
      show rows.getD (i : Int).toNat [] = _
      rw [Int.toNat_natCast]; exact hrows i
    refine Both.stepL (fun k => spec_NearestOf.l0.eq_2 ..) (Both.stepR (fun k => impl_NearestOf.l0.eq_2 ..) (Both.posL (by omega) (Both.posL (by omega) (Both.posL (by omega) (Both.posR (by omega) (Both.posR (by omega) (Both.posR (by omega) ?_)))))))
    rw [w1 i (by omega), e, rdOf_bool v i (by omega), ← getD_get v i (by omega)]
    by_cases hb : v.getD i false = true
    · rw [if_pos hb]
      refine Both.posR hb ?_
      by_cases h0 : i = 0
      · subst h0
        rw [mustL_zero l hg]
        exact Both.negL (by simp) (Both.posL (by omega) (Both.negR (by omega) (Both.posR (by omega) (near_loop l hg v hv rows hrl hrows d 1 (o ++ [-1]) (by omega) (by rw [List.length_append, List.length_singleton]; omega)))))
      · have h2 := mustL_two l hg i (by omega) (by omega)
        have h3 := mustL_len l i
        refine Both.posL (by omega) (Both.posR (by omega) (Both.bindR (mustPass_ev l hg i (by omega)) ?_))
        rw [wrap_id (((mustL l i).length : Int) - 2) (by omega) (by omega)]
        exact Both.posL (by omega) (Both.posL (by omega) (Both.posL (by omega) (Both.posR (by omega) (Both.posR (by omega) (Both.posR (by omega) (near_loop l hg v hv rows hrl hrows d (i + 1) (o ++ [rd (mustL l i) (((mustL l i).length : Int) - 2)]) (by omega) (by simp; omega)))))))
    · rw [if_neg hb]
      exact Both.negL (by simp) (Both.posL (by omega) (Both.negR hb (Both.posR (by omega) (near_loop l hg v hv rows hrl hrows d (i + 1) (o ++ [-1]) (by omega) (by simp; omega)))))
theorem nearestOf_both (l : List S51) (hl : l.length ≤ 1048576) : Both (fun r => r.1.length ≤ 20) (fun k => spec_NearestOf.f k l) (fun k => impl_NearestOf.f k l) := by
  unfold spec_NearestOf.f impl_NearestOf.f
  refine Both.bindL (goodP_spec l (by omega)) (Both.bindR (goodP_impl l (by omega)) (Both.ite (fun h => ?_) (fun _ => Both.now _ (by simp))))
  obtain ⟨v, hv, h1, h2, hw⟩ := reach_way l h
  obtain ⟨rows, g1, g2, g3⟩ := l11Must_ev l h v hv h2 hw
  exact Both.bindL g1 (Both.bindR h1 (near_loop l h v hv rows g2 g3 l.length 0 [] (by omega) (by simp)))
def EvP {α : Type} (g : Nat → Option α) (P : α → Prop) : Prop := ∃ r, Ev g r ∧ P r
theorem EvP.now {α : Type} {P : α → Prop} (r : α) (h : P r) : EvP (fun _ => some r) P := ⟨r, Ev.now r, h⟩
theorem EvP.bind {α β : Type} {g : Nat → Option α} {f : Nat → α → Option β} {P : α → Prop} {Q : β → Prop} (h : EvP g P) (k : ∀ a, P a → EvP (fun n => f n a) Q) : EvP (fun n => (g n).bind (f n)) Q := by
  obtain ⟨a, h1, h2⟩ := h
  obtain ⟨r, h3, h4⟩ := k a h2
  exact ⟨r, Ev.bind h1 h3, h4⟩
theorem EvP.bindE {α β : Type} {g : Option α} {f : Nat → α → Option β} {P : α → Prop} {Q : β → Prop} (h : ∃ a, g = some a ∧ P a) (k : ∀ a, P a → EvP (fun n => f n a) Q) : EvP (fun n => g.bind (f n)) Q := by
  obtain ⟨a, rfl, h2⟩ := h; exact k a h2
theorem EvP.mono {α : Type} {g : Nat → Option α} {P Q : α → Prop} (h : EvP g P) (k : ∀ a, P a → Q a) : EvP g Q := by obtain ⟨a, h1, h2⟩ := h; exact ⟨a, h1, k a h2⟩
theorem EvP.ite {α : Type} {c : Prop} [Decidable c] {A B : Nat → Option α} {P : α → Prop} (h1 : c → EvP A P) (h2 : ¬ c → EvP B P) : EvP (fun k => if c then A k else B k) P := by
  by_cases h : c
  · obtain ⟨r, a, b⟩ := h1 h; exact ⟨r, Ev.pos h a, b⟩
  · obtain ⟨r, a, b⟩ := h2 h; exact ⟨r, Ev.neg h a, b⟩
theorem EvP.pos {α : Type} {c : Prop} [Decidable c] {A B : Nat → Option α} {P : α → Prop} (h : c) (e : EvP A P) : EvP (fun k => if c then A k else B k) P := EvP.ite (fun _ => e) (fun n => absurd h n)
theorem EvP.neg {α : Type} {c : Prop} [Decidable c] {A B : Nat → Option α} {P : α → Prop} (h : ¬ c) (e : EvP B P) : EvP (fun k => if c then A k else B k) P := EvP.ite (fun n => absurd n h) (fun _ => e)
theorem EvP.step {α : Type} {g f : Nat → Option α} {P : α → Prop} (h : ∀ k, g (k + 1) = f k) (e : EvP f P) : EvP g P := by obtain ⟨r, a, b⟩ := e; exact ⟨r, Ev.step h a, b⟩
theorem EvP.congr {α : Type} {g f : Nat → Option α} {P : α → Prop} (h : ∀ k, g k = f k) (e : EvP f P) : EvP g P := by obtain ⟨r, a, b⟩ := e; exact ⟨r, Ev.congr h a, b⟩
def Bytes (l : List Int) : Prop := l.length ≤ 1099511627776 ∧ ∀ y ∈ l, 0 ≤ y ∧ y ≤ 255
theorem Bytes.rd {l : List Int} (h : Bytes l) (i : Int) (h0 : 0 ≤ i) (h1 : i < (l.length : Int)) : 0 ≤ rd l i ∧ rd l i ≤ 255 := by
  obtain ⟨n, rfl⟩ := Int.eq_ofNat_of_zero_le h0
  have hn : n < l.length := by omega
  rw [rd_nat l n hn]
  exact h.2 _ (List.getElem_mem hn)
theorem u8_wf {y : Int} (h : (Lit.int .u8 y).wf = true) : 0 ≤ y ∧ y ≤ 255 := by
  have h' : (decide (IntKind.u8.min ≤ y) && decide (y ≤ IntKind.u8.max)) = true := h
  have e1 : IntKind.u8.min = 0 := by decide
  have e2 : IntKind.u8.max = 255 := by decide
  rw [e1, e2] at h'
  simpa using h'
def CurAt (a : Int) (n : Nat) : Prop := 0 ≤ a ∧ a ≤ n
theorem u64c (x : Int) : 0 ≤ wrap64 (Go.bits .and .u64 x 255) ∧ wrap64 (Go.bits .and .u64 x 255) ≤ 255 := by
  have h : Go.bits .and .u64 x 255 = IntKind.u64.wrap ((BitVec.ofInt 64 x &&& BitVec.ofInt 64 255).toNat : Int) := rfl
  have h2 : (BitVec.ofInt 64 x &&& BitVec.ofInt 64 255).toNat ≤ 255 := by
    rw [BitVec.toNat_and]
    exact Nat.and_le_right
  have h3 : ∀ n : Int, IntKind.u64.wrap n = n % 18446744073709551616 := fun n => by simp [IntKind.wrap, IntKind.bits, IntKind.signed]
  rw [h, h3]
  generalize (BitVec.ofInt 64 x &&& BitVec.ofInt 64 255).toNat = z at h2
  unfold wrap64
  omega
theorem next_ok {l : List Int} (hl : Bytes l) (a s : Int) (h0 : 0 ≤ a) (h1 : a ≤ 1152921504606846976) :
    ∃ r : Int × Int × Int, spec_l1Cur_next.f l a s = some r ∧ (0 ≤ r.1 ∧ r.1 ≤ 255 ∧ r.2.1 = a + 1) := by
  have ew : wrap64 (a + 1) = a + 1 := by unfold wrap64; omega
  unfold spec_l1Cur_next.f
  by_cases c1 : a < (l.length : Int)
  · have hr := hl.rd a h0 c1
    have er : wrap64 (rd l a) = rd l a := by unfold wrap64; omega
    rw [if_pos c1, if_pos h0, ew, if_pos (by omega)]
    exact ⟨_, rfl, by rw [er]; exact hr.1, by rw [er]; exact hr.2, rfl⟩
  · rw [if_neg c1, ew, if_neg (by omega)]
    exact ⟨_, rfl, (u64c _).1, (u64c _).2, rfl⟩
theorem tmod_lt {x n : Int} (h0 : 0 ≤ x) (hn : 0 < n) : 0 ≤ Int.tmod x n ∧ Int.tmod x n < n := by
  rw [Int.tmod_eq_emod_of_nonneg h0]
  exact ⟨Int.emod_nonneg _ (by omega), Int.emod_lt_of_pos _ hn⟩
theorem pick_ok {l : List Int} (hl : Bytes l) (a s n : Int) (h0 : 0 ≤ a) (h1 : a ≤ 1152921504606846975) :
    ∃ r : Int × Int × Int, spec_l1Cur_pick.f l a s n = some r ∧ (0 ≤ r.1 ∧ r.1 ≤ n - 1 ∨ r.1 = 0 ∧ n ≤ 1) ∧ a ≤ r.2.1 ∧ r.2.1 ≤ a + 2 := by
  unfold spec_l1Cur_pick.f
  by_cases c1 : n ≤ 1
  · rw [if_pos c1]; exact ⟨_, rfl, Or.inr ⟨rfl, c1⟩, Int.le_refl _, by show a ≤ a + 2; omega⟩
  · rw [if_neg c1]
    obtain ⟨r, hr, h2, h3, h4⟩ := next_ok hl a s h0 (by omega)
    rw [hr]; simp only [Option.bind_some]
    by_cases c2 : n > 200
    · rw [if_pos c2]
      obtain ⟨q, hq, h5, h6, h7⟩ := next_ok hl r.2.1 r.2.2 (by omega) (by omega)
      rw [hq]; simp only [Option.bind_some]
      rw [if_neg (by omega)]
      have e : wrap64 ((wrap64 (r.1 * 256)) + q.1) = r.1 * 256 + q.1 := by unfold wrap64; omega
      have := tmod_lt (x := r.1 * 256 + q.1) (n := n) (by omega) (by omega)
      refine ⟨_, rfl, Or.inl ?_, ?_, ?_⟩
      · rw [e]; omega
      · show a ≤ q.2.1; omega
      · show q.2.1 ≤ a + 2; omega
    · rw [if_neg c2, if_neg (by omega)]
      have := tmod_lt (x := r.1) (n := n) h2 (by omega)
      refine ⟨_, rfl, Or.inl ?_, ?_, ?_⟩
      · show 0 ≤ Int.tmod r.1 n ∧ Int.tmod r.1 n ≤ n - 1; omega
      · show a ≤ r.2.1; omega
      · show r.2.1 ≤ a + 2; omega
theorem one_ok {l : List Int} (hl : Bytes l) (a s n : Int) (h0 : 0 ≤ a) (h1 : a ≤ 1152921504606846975) :
    ∃ r : Bool × Int × Int, spec_l1Cur_one.f l a s n = some r ∧ a ≤ r.2.1 ∧ r.2.1 ≤ a + 2 := by
  unfold spec_l1Cur_one.f
  obtain ⟨r, hr, _, h2, h3⟩ := pick_ok hl a s n h0 h1
  rw [hr]; exact ⟨_, rfl, h2, h3⟩
theorem among_ok {l : List Int} (hl : Bytes l) (a s : Int) (xs : List Int) (hx : 0 < xs.length) (hx2 : xs.length ≤ 1000) (h0 : 0 ≤ a) (h1 : a ≤ 1152921504606846975) :
    ∃ r : Int × Int × Int, spec_l1Cur_among.f l a s xs = some r ∧ r.1 ∈ xs ∧ a ≤ r.2.1 ∧ r.2.1 ≤ a + 2 := by
  unfold spec_l1Cur_among.f
  obtain ⟨r, hr, h2, h3, h4⟩ := pick_ok hl a s (xs.length : Int) h0 h1
  rw [hr]; simp only [Option.bind_some]
  have hb : 0 ≤ r.1 ∧ r.1 < (xs.length : Int) := by omega
  rw [if_pos hb.1, if_pos hb.2]
  obtain ⟨n, hn⟩ := Int.eq_ofNat_of_zero_le hb.1
  refine ⟨_, rfl, ?_, h3, h4⟩
  show rd xs r.1 ∈ xs
  rw [hn, rd_nat xs n (by omega)]
  exact List.getElem_mem _
theorem bytes_of {l : List Int} (h : l.length * 1 ≤ 140737488351232 ∧ ∀ y0_ ∈ l, (Lit.int .u8 y0_).wf = true) (hs : l.length ≤ 1048576) : Bytes l := ⟨by omega, fun y hy => u8_wf (h.2 y hy)⟩
theorem small_of {l0 l1 : List Int} (h : ¬ (wrap64 ((l0.length : Int) + (l1.length : Int))) > 1048576) (h0 : l0.length * 1 ≤ 140737488351232) (h1 : l1.length * 1 ≤ 140737488351232) : l0.length ≤ 1048576 ∧ l1.length ≤ 1048576 := by
  have e : wrap64 ((l0.length : Int) + (l1.length : Int)) = (l0.length : Int) + (l1.length : Int) := by unfold wrap64; omega
  rw [e] at h; omega
theorem do_add (x y : Int) (hx : 0 ≤ x ∧ x ≤ 65535) (hy : 0 ≤ y ∧ y ≤ 65535) : impl_do.f 1 x y = some ((x + y) % 65536) := by
  unfold impl_do.f
  rw [if_pos rfl, impl_WordOf_eq, wrap_id (x + y) (by omega) (by omega)]; rfl
theorem do_sub (x y : Int) (hx : 0 ≤ x ∧ x ≤ 65535) (hy : 0 ≤ y ∧ y ≤ 65535) : impl_do.f 2 x y = some ((x - y) % 65536) := by
  unfold impl_do.f
  rw [if_neg (by decide), if_pos rfl, impl_WordOf_eq, wrap_id (x - y) (by omega) (by omega)]; rfl
theorem do_mul (x y : Int) (hx : 0 ≤ x ∧ x ≤ 65535) (hy : 0 ≤ y ∧ y ≤ 65535) : impl_do.f 3 x y = some ((x * y) % 65536) := by
  obtain ⟨m1, m2⟩ := mul_word hx.1 hx.2 hy.1 hy.2
  unfold impl_do.f
  rw [if_neg (by decide), if_neg (by decide), if_pos rfl, impl_WordOf_eq, wrap_id (x * y) (by omega) (by omega)]; rfl
theorem do_div (x y : Int) (hx : 0 ≤ x ∧ x ≤ 65535) (hy : 0 ≤ y ∧ y ≤ 65535) : impl_do.f 4 x y = some (x / y) := by
  unfold impl_do.f
  rw [if_neg (by decide), if_neg (by decide), if_neg (by decide), if_pos rfl]
  by_cases h : y = 0
  · rw [if_pos h, h, Int.ediv_zero]
  · rw [if_neg h, Int.tdiv_eq_ediv_of_nonneg hx.1]
    have := Int.ediv_nonneg hx.1 hy.1
    have := Int.ediv_le_self y hx.1
    rw [wrap_id _ (by omega) (by omega)]
theorem do_mod (x y : Int) (hx : 0 ≤ x ∧ x ≤ 65535) (hy : 0 ≤ y ∧ y ≤ 65535) : impl_do.f 5 x y = some (x % y) := by
  unfold impl_do.f
  rw [if_neg (by decide), if_neg (by decide), if_neg (by decide), if_neg (by decide), if_pos rfl]
  by_cases h : y = 0
  · rw [if_pos h, h, Int.emod_zero]
  · rw [if_neg h, Int.tmod_eq_emod_of_nonneg hx.1]
theorem do_and (x y : Int) : impl_do.f 6 x y = some (Go.bits .and .i64 x y) := by
  unfold impl_do.f
  rw [if_neg (by decide), if_neg (by decide), if_neg (by decide), if_neg (by decide), if_neg (by decide), if_pos rfl]
theorem do_or (x y : Int) : impl_do.f 7 x y = some (Go.bits .or .i64 x y) := by
  unfold impl_do.f
  rw [if_neg (by decide), if_neg (by decide), if_neg (by decide), if_neg (by decide), if_neg (by decide), if_neg (by decide), if_pos rfl]
theorem do_xor (x y : Int) : impl_do.f 8 x y = some (Go.bits .xor .i64 x y) := by
  unfold impl_do.f
  rw [if_neg (by decide), if_neg (by decide), if_neg (by decide), if_neg (by decide), if_neg (by decide), if_neg (by decide), if_neg (by decide), if_pos rfl]
theorem pow_word' {n : Nat} (h : n < 16) : 1 ≤ ((2 ^ n : Nat) : Int) ∧ ((2 ^ n : Nat) : Int) ≤ 32768 := by
  have h1 : 2 ^ n ≤ 32768 := Nat.pow_le_pow_right (n := 2) (show 2 > 0 by decide) (show n ≤ 15 by omega)
  have h2 := Nat.two_pow_pos n
  generalize 2 ^ n = p at h1 h2 ⊢
  omega
theorem do_shl (x y : Int) (n : Nat) (hn : n < 16) (e : Int.tmod y 16 = (n : Int)) (hx : 0 ≤ x ∧ x ≤ 65535) : impl_do.f 9 x y = some ((x * ((2 ^ n : Nat) : Int)) % 65536) := by
  unfold impl_do.f
  rw [if_neg (by decide), if_neg (by decide), if_neg (by decide), if_neg (by decide), if_neg (by decide), if_neg (by decide), if_neg (by decide), if_neg (by decide), if_pos rfl, e, if_pos (by omega), shl_nat x n (by omega), impl_WordOf_eq]
  obtain ⟨p1, p2⟩ := pow_word' hn
  generalize ((2 ^ n : Nat) : Int) = p at p1 p2 ⊢
  obtain ⟨m1, m2⟩ := mul_word hx.1 hx.2 (show 0 ≤ p by omega) (show p ≤ 65535 by omega)
  rw [wrap_id _ (by omega) (by omega)]; rfl
theorem do_shr (o x y : Int) (n : Nat) (hn : n < 16) (e : Int.tmod y 16 = (n : Int)) (ho : 10 ≤ o) : impl_do.f o x y = some (x / ((2 ^ n : Nat) : Int)) := by
  unfold impl_do.f
  rw [if_neg (by omega), if_neg (by omega), if_neg (by omega), if_neg (by omega), if_neg (by omega), if_neg (by omega), if_neg (by omega), if_neg (by omega), if_neg (by omega), e, if_pos (by omega), shr_nat x n (by omega)]
def Snd (o a b c d : Int) (r : Int × Int) : Prop := GoodS r.1 r.2 = true ∧ ∀ x y, a ≤ x → x ≤ b → c ≤ y → y ≤ d → ∃ z, impl_do.f o x y = some z ∧ r.1 ≤ z ∧ z ≤ r.2
def Mt (v m x : Int) : Prop := 0 ≤ x ∧ x ≤ 65535 ∧ Go.bits .andNot .i64 x m = v
def jm (a b c d : Nat) : Nat := (b ||| d) ||| (a ^^^ c)
def carryB (k x y e : Nat) : Bool := decide (2 ^ k ≤ x % 2 ^ k + y % 2 ^ k + e)
def CurQ (a m : Int) (r : Int × Int × Int × Int × Int × Int × Int × Int) : Prop := a ≤ r.2.2.2.2.2.2.1 ∧ r.2.2.2.2.2.2.1 ≤ a + m
theorem EvP.far {g : Nat → Option (Int × Int × Int × Int × Int × Int × Int × Int)} {a m a' m' : Int} (h : EvP g (CurQ a' m')) (h1 : a ≤ a') (h2 : a' + m' ≤ a + m) : EvP g (CurQ a m) := h.mono fun r q => ⟨Int.le_trans h1 q.1, Int.le_trans q.2 h2⟩
theorem EvP.pk {l : List Int} (hl : Bytes l) {a s n m m' : Int} {F : Nat → Int × Int × Int → Option (Int × Int × Int × Int × Int × Int × Int × Int)} (h0 : 0 ≤ a) (h1 : a ≤ 1152921504606846975) (hm : m' + 2 ≤ m) (k : ∀ x a' s', a ≤ a' → a' ≤ a + 2 → EvP (fun n => F n (x, a', s')) (CurQ a' m')) : EvP (fun k => (spec_l1Cur_pick.f l a s n).bind (F k)) (CurQ a m) := by
  obtain ⟨⟨x, a', s'⟩, e, _, h3, h4⟩ := pick_ok hl a s n h0 h1
  simp only at h3 h4
  rw [e]; exact (k x a' s' h3 h4).far h3 (by omega)
theorem EvP.am {l : List Int} (hl : Bytes l) {a s m m' : Int} {xs : List Int} {F : Nat → Int × Int × Int → Option (Int × Int × Int × Int × Int × Int × Int × Int)} (hx : 0 < xs.length) (hx2 : xs.length ≤ 1000) (h0 : 0 ≤ a) (h1 : a ≤ 1152921504606846975) (hm : m' + 2 ≤ m) (k : ∀ x a' s', a ≤ a' → a' ≤ a + 2 → EvP (fun n => F n (x, a', s')) (CurQ a' m')) : EvP (fun k => (spec_l1Cur_among.f l a s xs).bind (F k)) (CurQ a m) := by
  obtain ⟨⟨x, a', s'⟩, e, _, h3, h4⟩ := among_ok hl a s xs hx hx2 h0 h1
  simp only at h3 h4
  rw [e]; exact (k x a' s' h3 h4).far h3 (by omega)
theorem CurQ.here (y0 y1 y2 y3 y4 y5 a s : Int) : CurQ a 0 (y0, y1, y2, y3, y4, y5, a, s) := ⟨Int.le_refl _, by show a ≤ a + 0; omega⟩
theorem drawStep7 {l : List Int} (hl : Bytes l) (x : Int) (b : Bool) (a s y0 y1 y2 y3 y4 y5 : Int) (h0 : 0 ≤ a) (h1 : a ≤ 1152921504606846000) : EvP (fun k => spec_l1Cur_step.j7 k x b l a s y0 y1 y2 y3 y4 y5) (CurQ a 2) := by
  refine EvP.step (fun k => spec_l1Cur_step.j7.eq_2 ..) (EvP.ite (fun _ => ?_) (fun _ => (EvP.now _ (CurQ.here ..)).far (Int.le_refl _) (by omega)))
  refine EvP.bindE ?_ (P := fun _ => True) (fun n _ => EvP.pk hl h0 (by omega) (m' := 0) (by omega) (fun x' a' s' _ _ => EvP.now _ (CurQ.here ..)))
  unfold spec_l1Least.f; split <;> exact ⟨_, rfl, trivial⟩
theorem drawStep6 {l : List Int} (hl : Bytes l) (x z : Int) (b : Bool) (a s y0 y1 y2 y3 y4 y5 : Int) (h0 : 0 ≤ a) (h1 : a ≤ 1152921504606846000) : EvP (fun k => spec_l1Cur_step.j6 k x z b l a s y0 y1 y2 y3 y4 y5) (CurQ a 2) := by
  have h7 := fun b => drawStep7 hl x b a s y0 y1 y2 y3 y4 y5 h0 h1
  refine EvP.step (fun k => spec_l1Cur_step.j6.eq_2 ..) (EvP.ite (fun _ => ?_) (fun _ => EvP.ite (fun _ => h7 _) (fun _ => EvP.ite (fun _ => h7 _) (fun _ => h7 _))))
  exact EvP.pk hl h0 (by omega) (m' := 0) (by omega) (fun x' a' s' _ _ => EvP.now _ (CurQ.here ..))
theorem drawStep5 {l : List Int} (hl : Bytes l) (x z : Int) (b : Bool) (a s y0 y1 y2 y3 y4 y5 : Int) (h0 : 0 ≤ a) (h1 : a ≤ 1152921504606845000) : EvP (fun k => spec_l1Cur_step.j5 k x z b l a s y0 y1 y2 y3 y4 y5) (CurQ a 6) := by
  have h6 := fun b => (drawStep6 hl x z b a s y0 y1 y2 y3 y4 y5 h0 (by omega)).far (a := a) (m := 6) (Int.le_refl _) (by omega)
  refine EvP.step (fun k => spec_l1Cur_step.j5.eq_2 ..) (EvP.ite (fun _ => ?_) (fun _ => EvP.ite (fun _ => ?_) (fun _ => EvP.ite (fun _ => ?_) (fun _ => EvP.ite (fun _ => h6 _) (fun _ => h6 _)))))
  · exact EvP.pk hl h0 (by omega) (m' := 2) (by omega) (fun x' a' s' _ _ => EvP.am hl (a := a') (by simp) (by simp) (by omega) (by omega) (m' := 0) (by omega) (fun x' a' s' _ _ => EvP.now _ (CurQ.here ..)))
  · exact EvP.pk hl h0 (by omega) (m' := 4) (by omega) (fun x' a' s' _ _ => EvP.pk hl (a := a') (by omega) (by omega) (m' := 2) (by omega) (fun x' a' s' _ _ => EvP.am hl (a := a') (by simp) (by simp) (by omega) (by omega) (m' := 0) (by omega) (fun x' a' s' _ _ => EvP.now _ (CurQ.here ..))))
  · exact EvP.pk hl h0 (by omega) (m' := 0) (by omega) (fun x' a' s' _ _ => EvP.now _ (CurQ.here ..))
theorem drawStep4 {l : List Int} (hl : Bytes l) (x : Int) (a s y0 y1 y2 y3 y4 y5 : Int) (h0 : 0 ≤ a) (h1 : a ≤ 1152921504606845000) : EvP (fun k => spec_l1Cur_step.j4 k x l a s y0 y1 y2 y3 y4 y5) (CurQ a 6) := by
  refine EvP.step (fun k => spec_l1Cur_step.j4.eq_2 ..) (EvP.ite (fun _ => ?_) (fun _ => ?_)) <;> exact drawStep5 hl _ _ _ _ _ _ _ _ _ _ _ h0 h1
theorem drawStep3 {l : List Int} (hl : Bytes l) (x : Int) (a s y0 y1 y2 y3 y4 y5 : Int) (h0 : 0 ≤ a) (h1 : a ≤ 1152921504606844000) : EvP (fun k => spec_l1Cur_step.j3 k x l a s y0 y1 y2 y3 y4 y5) (CurQ a 8) := by
  refine EvP.step (fun k => spec_l1Cur_step.j3.eq_2 ..) (EvP.ite (fun _ => ?_) (fun _ => EvP.ite (fun _ => ?_) (fun _ => (drawStep4 hl _ _ _ _ _ _ _ _ _ h0 (by omega)).far (Int.le_refl _) (by omega)))) <;>
    exact EvP.pk hl h0 (by omega) (m' := 6) (by omega) (fun x' a' s' _ _ => drawStep4 hl _ a' _ _ _ _ _ _ _ (by omega) (by omega))
theorem drawStep2 {l : List Int} (hl : Bytes l) (x : Int) (a s y0 y1 y2 y3 y4 y5 : Int) (h0 : 0 ≤ a) (h1 : a ≤ 1152921504606843000) : EvP (fun k => spec_l1Cur_step.j2 k x l a s y0 y1 y2 y3 y4 y5) (CurQ a 10) := by
  refine EvP.step (fun k => spec_l1Cur_step.j2.eq_2 ..) (EvP.ite (fun _ => (drawStep3 hl _ _ _ _ _ _ _ _ _ h0 (by omega)).far (Int.le_refl _) (by omega)) (fun _ => ?_))
  exact EvP.pk hl h0 (by omega) (m' := 8) (by omega) (fun x' a' s' _ _ => drawStep3 hl _ a' _ _ _ _ _ _ _ (by omega) (by omega))
theorem drawStep1 {l : List Int} (hl : Bytes l) (x : Int) (a s y0 y1 y2 y3 y4 y5 : Int) (h0 : 0 ≤ a) (h1 : a ≤ 1152921504606842000) : EvP (fun k => spec_l1Cur_step.j1 k x l a s y0 y1 y2 y3 y4 y5) (CurQ a 12) := by
  refine EvP.step (fun k => spec_l1Cur_step.j1.eq_2 ..) (EvP.ite (fun _ => ?_) (fun _ => EvP.ite (fun _ => ?_) (fun _ => EvP.ite (fun _ => ?_) (fun _ => EvP.ite (fun _ => ?_) (fun _ => (drawStep2 hl _ _ _ _ _ _ _ _ _ h0 (by omega)).far (Int.le_refl _) (by omega)))))) <;>
    exact EvP.pk hl h0 (by omega) (m' := 10) (by omega) (fun x' a' s' _ _ => drawStep2 hl _ a' _ _ _ _ _ _ _ (by omega) (by omega))
theorem drawStep0 {l : List Int} (hl : Bytes l) (x : Int) (b : Bool) (a s y0 y1 y2 y3 y4 y5 : Int) (h0 : 0 ≤ a) (h1 : a ≤ 1152921504606842000) : EvP (fun k => spec_l1Cur_step.j0 k x b l a s y0 y1 y2 y3 y4 y5) (CurQ a 12) := by
  refine EvP.step (fun k => spec_l1Cur_step.j0.eq_2 ..) (EvP.ite (fun _ => ?_) (fun _ => ?_)) <;> exact drawStep1 hl _ _ _ _ _ _ _ _ _ h0 h1
theorem drawStep {l : List Int} (hl : Bytes l) (a s x : Int) (h0 : 0 ≤ a) (h1 : a ≤ 1152921504606841000) : EvP (fun k => spec_l1Cur_step.f k l a s x) (CurQ a 14) := by
  unfold spec_l1Cur_step.f
  exact EvP.am hl (by simp) (by simp) h0 (by omega) (m' := 12) (by omega) (fun x' a' s' _ _ => EvP.ite (fun _ => drawStep0 hl _ _ a' _ _ _ _ _ _ _ (by omega) (by omega)) (fun _ => drawStep0 hl _ _ a' _ _ _ _ _ _ _ (by omega) (by omega)))
theorem drawProgram_loop {l : List Int} (hl : Bytes l) (n : Nat) (hn : n ≤ 19) : ∀ (d i : Nat) (p : List S51) (a s : Int), i + d = n → p.length = i → 0 ≤ a → a ≤ 100 + 20 * (i : Int) → EvP (fun k => spec_l1Cur_program.l0 k p (n : Int) (i : Int) l a s) (fun r => r.1.length ≤ 20 ∧ 0 ≤ r.2.1 ∧ r.2.1 ≤ 1000)
  | 0, i, p, a, s, hd, hp, h0, h1 => by
    refine EvP.step (fun k => spec_l1Cur_program.l0.eq_2 ..) (EvP.neg (by omega) (EvP.pos (by omega) ?_))
    refine EvP.bindE (P := fun q : List S51 => q.length ≤ 20 ∧ 0 < q.length) ⟨_, rfl, by simp; omega⟩ (fun q hq => ?_)
    obtain ⟨⟨b, a1, s1⟩, e1, g1, g2⟩ := one_ok hl a s 30 h0 (by omega)
    simp only at g1 g2
    rw [e1]; simp only [Option.bind_some]
    refine EvP.ite (fun _ => ?_) (fun _ => EvP.now _ ⟨hq.1, by show 0 ≤ a1; omega, by show a1 ≤ 1000; omega⟩)
    obtain ⟨⟨x2, a2, s2⟩, e2, g0, g3, g4⟩ := pick_ok hl a1 s1 (q.length : Int) (by omega) (by omega)
    simp only at g0 g3 g4
    rw [e2]; simp only [Option.bind_some]
    obtain ⟨⟨x3, a3, s3⟩, e3, _, g5, g6⟩ := pick_ok hl a2 s2 13 (by omega) (by omega)
    simp only at g5 g6
    rw [e3]; simp only [Option.bind_some]
    obtain ⟨⟨x4, a4, s4⟩, e4, _, g7, g8⟩ := pick_ok hl a3 s3 3 (by omega) (by omega)
    simp only at g7 g8
    rw [e4]; simp only [Option.bind_some]
    obtain ⟨⟨x5, a5, s5⟩, e5, _, g9, g10⟩ := pick_ok hl a4 s4 8 (by omega) (by omega)
    simp only at g9 g10
    rw [e5]; simp only [Option.bind_some]
    obtain ⟨⟨x6, a6, s6⟩, e6, _, g11, g12⟩ := among_ok hl a5 s5 [0, 255, 256, 65536] (by simp) (by simp) (by omega) (by omega)
    simp only at g11 g12
    rw [e6]; simp only [Option.bind_some]
    obtain ⟨⟨x7, a7, s7⟩, e7, _, g13, g14⟩ := pick_ok hl a6 s6 4 (by omega) (by omega)
    simp only at g13 g14
    rw [e7]; simp only [Option.bind_some]
    refine EvP.pos (by omega) (EvP.pos (by omega) (EvP.now _ ⟨?_, ?_, ?_⟩))
    · simpa using hq.1
    · show 0 ≤ a7; omega
    · show a7 ≤ 1000; omega
  | d + 1, i, p, a, s, hd, hp, h0, h1 => by
    refine EvP.step (fun k => spec_l1Cur_program.l0.eq_2 ..) (EvP.pos (by omega) ?_)
    refine EvP.bind (drawStep hl a s _ h0 (by omega)) (fun r hr => EvP.pos (by omega) ?_)
    rw [w1 i (by omega)]
    have := hr.1
    have := hr.2
    exact drawProgram_loop hl n hn d (i + 1) _ _ _ (by omega) (by simp; omega) (by omega) (by omega)
theorem drawProgram {l : List Int} (hl : Bytes l) : EvP (fun k => spec_l1Cur_program.f k l 0 0) (fun r => r.1.length ≤ 20 ∧ 0 ≤ r.2.1 ∧ r.2.1 ≤ 1000) := by
  unfold spec_l1Cur_program.f
  obtain ⟨⟨x1, a1, s1⟩, e1, g0, g1, g2⟩ := pick_ok hl 0 0 12 (by omega) (by omega)
  simp only at g0 g1 g2
  rw [e1]; simp only [Option.bind_some]
  obtain ⟨⟨b, a2, s2⟩, e2, g3, g4⟩ := one_ok hl a1 s1 30 (by omega) (by omega)
  simp only at g3 g4
  rw [e2]; simp only [Option.bind_some]
  obtain ⟨n, rfl⟩ := Int.eq_ofNat_of_zero_le (show 0 ≤ x1 by omega)
  refine EvP.ite (fun _ => ?_) (fun _ => ?_) <;> refine EvP.step (fun k => spec_l1Cur_program.j0.eq_2 ..) ?_
  · exact drawProgram_loop hl 19 (by omega) 19 0 [] a2 s2 (by omega) rfl (by omega) (by omega)
  · exact drawProgram_loop hl n (by omega) n 0 [] a2 s2 (by omega) rfl (by omega) (by omega)
theorem drawNextsOf {l : List Int} (hl : Bytes l) : EvP (fun k => spec_DrawNextsOf.f k l) (fun r => r.1.length ≤ 20) := by
  unfold spec_DrawNextsOf.f
  refine EvP.bind (drawProgram hl) (fun r hr => ?_)
  refine EvP.bindE ?_ (P := fun _ => True) (fun _ _ => EvP.now _ hr.1)
  obtain ⟨q, e, _⟩ := pick_ok hl r.2.1 r.2.2 (wrap64 ((r.1.length : Int) + 2)) hr.2.1 (by omega)
  exact ⟨q, e, trivial⟩
theorem sameInts_loop (l : List Int) (hl : l.length ≤ 1099511627776) : ∀ (d i : Nat), i + d = l.length → Ev (fun k => laws_sameInts.l0 k l l (l.length : Int) (i : Int)) true
  | 0, i, h => Ev.step (fun k => laws_sameInts.l0.eq_2 ..) (Ev.neg (by omega) (Ev.now _))
  | d + 1, i, h => by
    refine Ev.step (fun k => laws_sameInts.l0.eq_2 ..) (Ev.pos (by omega) (Ev.pos (by omega) (Ev.pos (by omega) (Ev.pos (by omega) (Ev.pos rfl ?_)))))
    rw [w1 i (by omega)]; exact sameInts_loop l hl d (i + 1) (by omega)
theorem sameInts_self (l : List Int) (hl : l.length ≤ 1099511627776) : Ev (fun k => laws_sameInts.f k l l) true := Ev.pos rfl (sameInts_loop l hl l.length 0 (by omega))
theorem has_loop (l : List Int) (x : Int) (hl : l.length ≤ 1099511627776) : ∀ (d i : Nat), i + d = l.length → Ev (fun k => laws_has.l0 k x l (l.length : Int) (i : Int)) (decide (x ∈ l.drop i))
  | 0, i, h => Ev.step (fun k => laws_has.l0.eq_2 ..) (Ev.neg (by omega) (Ev.at_ (Ev.now _) (by rw [List.drop_eq_nil_of_le (by omega)]; simp)))
  | d + 1, i, h => by
    have hi : i < l.length := by omega
    rw [List.drop_eq_getElem_cons hi]
    refine Ev.step (fun k => laws_has.l0.eq_2 ..) (Ev.pos (by omega) (Ev.pos (by omega) (Ev.pos (by omega) ?_)))
    rw [rd_nat l i hi, w1 i (by omega)]
    by_cases e : l[i] = x
    · exact Ev.pos e (Ev.at_ (Ev.now _) (decide_eq_true (List.mem_cons.2 (Or.inl e.symm))).symm)
    · exact Ev.neg e (Ev.at_ (has_loop l x hl d (i + 1) (by omega)) (by rw [decide_eq_decide, List.mem_cons]; exact ⟨Or.inr, fun q => q.resolve_left (Ne.symm e)⟩))
theorem has_ev (l : List Int) (x : Int) (hl : l.length ≤ 1099511627776) : Ev (fun k => laws_has.f k l x) (decide (x ∈ l)) := by
  have h := has_loop l x hl l.length 0 (by omega)
  rwa [List.drop_zero] at h
theorem aheadOf_val (l : List S51) (hg : GoodP l = true) (a : Nat) (ha : a < l.length) (v : List Bool) (hv : v.length = l.length) (h1 : Ev (fun k => impl_reachable.f k l 0) v) : Ev (fun k => impl_AheadOf.f k l (a : Int)) (flt (fun j => v.getD j false && decide ((a : Int) ∈ nx l (j : Int))) l.length 0, true) := by
  have hn := (GoodP_at hg).1
  unfold impl_AheadOf.f
  refine Ev.bind (isStep_ev l a (by omega)) (Ev.pos (by rw [hg, In_true.2 (by omega)]; rfl) ?_)
  have h3 := impl_AheadOf_lst (fun k => impl_AheadOf.pr k v l (a : Int)) l.length (by omega) (fun j => v.getD j false && decide ((a : Int) ∈ nx l (j : Int))) (fun i hi => by
    unfold impl_AheadOf.pr
    refine Ev.pos (by omega) (Ev.pos (by omega) ?_)
    rw [rdOf_bool v i (by omega)]
    have e : v.getD i false = v[i]'(by omega) := by simp [List.getD, show i < v.length by omega]
    simp only [e]
    obtain ⟨e1, e2, e3, e4⟩ := nx_ev l hg i hi
    by_cases hb : v[i]'(by omega) = true
    · refine Ev.pos hb (Ev.bindE e2 (Ev.at_ (contains_ev _ (a : Int) (by omega)) ?_)); rw [hb]; rfl
    · refine Ev.neg hb (Ev.at_ (Ev.now _) ?_); rw [Bool.eq_false_iff.mpr hb]; rfl)
  exact Ev.bind h1 (Ev.bind h3 (Ev.now _))
theorem reachedIn_val (l : List S51) (hg : GoodP l = true) (v : List Bool) (hv : v.length = l.length) (h1 : Ev (fun k => impl_reachable.f k l 0) v) : Ev (fun k => impl_ReachedIn.f k l) (tr v 0, true) := by
  have hn := (GoodP_at hg).1
  have h3 := reachedIn_lst v (by omega) v.length 0 [] (by omega) (by simp)
  rw [List.drop_zero, List.nil_append, hv] at h3
  unfold impl_ReachedIn.f
  exact Ev.bind (goodP_impl l (by omega)) (Ev.pos hg (Ev.bind h1 (Ev.bind h3 (Ev.now _))))
theorem do_word (o x y : Int) (ho : 1 ≤ o ∧ o ≤ 10) (hx : 0 ≤ x ∧ x ≤ 65535) (hy : 0 ≤ y ∧ y ≤ 65535) : ∃ t, impl_do.f o x y = some t ∧ 0 ≤ t ∧ t ≤ 65535 := by
  have hs : ∃ n : Nat, n < 16 ∧ Int.tmod y 16 = (n : Int) := ⟨(y % 16).toNat, by omega, by rw [Int.tmod_eq_emod_of_nonneg hy.1]; omega⟩
  obtain ⟨q, hq, eq⟩ := hs
  rcases (show o = 1 ∨ o = 2 ∨ o = 3 ∨ o = 4 ∨ o = 5 ∨ o = 6 ∨ o = 7 ∨ o = 8 ∨ o = 9 ∨ o = 10 by omega) with rfl | rfl | rfl | rfl | rfl | rfl | rfl | rfl | rfl | rfl
  · exact ⟨_, do_add _ _ hx hy, by omega, by omega⟩
  · exact ⟨_, do_sub _ _ hx hy, by omega, by omega⟩
  · refine ⟨_, do_mul _ _ hx hy, ?_⟩
    generalize x * y = z
    omega
  · have h1 := Int.ediv_nonneg hx.1 hy.1
    have h2 := Int.ediv_le_self y hx.1
    exact ⟨_, do_div _ _ hx hy, h1, by omega⟩
  · refine ⟨_, do_mod _ _ hx hy, ?_⟩
    by_cases h : y = 0
    · rw [h, Int.emod_zero]; exact hx
    · have h1 := Int.emod_nonneg x h
      have h2 := Int.emod_lt_of_pos x (show 0 < y by omega)
      omega
  · obtain ⟨n, rfl⟩ := Int.eq_ofNat_of_zero_le hx.1
    obtain ⟨m, rfl⟩ := Int.eq_ofNat_of_zero_le hy.1
    refine ⟨_, do_and _ _, ?_⟩
    rw [bits_and n m (by omega) (by omega)]
    have := Nat.and_le_left (n := n) (m := m)
    omega
  · obtain ⟨n, rfl⟩ := Int.eq_ofNat_of_zero_le hx.1
    obtain ⟨m, rfl⟩ := Int.eq_ofNat_of_zero_le hy.1
    refine ⟨_, do_or _ _, ?_⟩
    rw [bits_or n m (by omega) (by omega)]
    have : n ||| m < 2 ^ 16 := Nat.or_lt_two_pow (show n < 65536 by omega) (show m < 65536 by omega)
    omega
  · obtain ⟨n, rfl⟩ := Int.eq_ofNat_of_zero_le hx.1
    obtain ⟨m, rfl⟩ := Int.eq_ofNat_of_zero_le hy.1
    refine ⟨_, do_xor _ _, ?_⟩
    rw [bits_xor n m (by omega) (by omega)]
    have : n ^^^ m < 2 ^ 16 := Nat.xor_lt_two_pow (show n < 65536 by omega) (show m < 65536 by omega)
    omega
  · refine ⟨_, do_shl x y q hq eq hx, ?_⟩
    generalize x * ((2 ^ q : Nat) : Int) = z
    omega
  · have hp := pow_word' hq
    refine ⟨_, do_shr 10 x y q hq eq (by omega), ?_⟩
    generalize ((2 ^ q : Nat) : Int) = z at hp
    have h1 := Int.ediv_nonneg hx.1 (show 0 ≤ z by omega)
    have h2 := Int.ediv_le_self z hx.1
    omega
theorem ctx_np (x : Int) : impl_isContext.np x = some (!In x 0 255) := by
  unfold impl_isContext.np
  rw [impl_in_eq]; rfl
theorem ctx_loop (l : List Int) (hl : l.length ≤ 1048576) : ∀ (d i : Nat), i + d = l.length → ∃ r, Ev (fun k => impl_isContext.idx k l (i : Int)) r ∧ decide (r ≥ 0) = (l.drop i).any (fun x => !In x 0 255)
  | 0, i, h => by
    rw [List.drop_eq_nil_of_le (by omega)]
    exact ⟨-1, Ev.step (fun k => impl_isContext.idx.eq_2 ..) (Ev.neg (by omega) (Ev.now _)), rfl⟩
  | d + 1, i, h => by
    have hi : i < l.length := by omega
    obtain ⟨r, h1, h2⟩ := ctx_loop l hl d (i + 1) (by omega)
    rw [List.drop_eq_getElem_cons hi, List.any_cons]
    by_cases hb : In l[i] 0 255 = true
    · refine ⟨r, Ev.step (fun k => impl_isContext.idx.eq_2 ..) (Ev.pos (by omega) <| Ev.pos (by omega) ?_), by rw [hb, h2]; rfl⟩
      rw [rd_nat l i hi, w1 i (by omega)]
      refine Ev.bindE (ctx_np ..) (Ev.neg (by rw [hb]; simp) h1)
    · refine ⟨(i : Int), Ev.step (fun k => impl_isContext.idx.eq_2 ..) (Ev.pos (by omega) <| Ev.pos (by omega) ?_), ?_⟩
      · rw [rd_nat l i hi]
        refine Ev.bindE (ctx_np ..) (Ev.pos (by rw [Bool.eq_false_iff.mpr hb]; rfl) (Ev.now _))
      · rw [Bool.eq_false_iff.mpr hb, decide_eq_true (by omega)]; rfl
theorem ctx_ev (l : List Int) (hl : l.length ≤ 1048576) : ∃ b, Ev (fun k => impl_isContext.f k l) b ∧ (b = true → l.length = 8 ∧ ∀ x, x ∈ l → 0 ≤ x ∧ x ≤ 255) := by
  unfold impl_isContext.f
  by_cases h8 : l.length = 8
  · obtain ⟨r, h1, h2⟩ := ctx_loop l hl l.length 0 (by omega)
    rw [List.drop_zero] at h2
    refine ⟨_, Ev.pos h8 (Ev.bind (Ev.bind h1 (Ev.now _)) (Ev.now _)), fun h => ⟨h8, fun x hx => ?_⟩⟩
    rw [h2, Bool.not_eq_true', List.any_eq_false] at h
    have := h x hx
    exact In_true.1 (by simpa using this)
  · exact ⟨false, Ev.neg h8 (Ev.now _), fun h => by cases h⟩
theorem VK_ok {s0 s1 s2 s3 s4 s5 : Int} (h : VK s0 s1 s2 s3 s4 s5 = true) : (0 ≤ s2 ∧ s2 ≤ 5) ∧ (0 ≤ s3 ∧ s3 ≤ 5) ∧ (0 ≤ s4 ∧ s4 ≤ 65535) ∧ (1 ≤ s0 ∧ s0 ≤ 11) ∧ ((s0 = 1 ∨ s0 = 2) → 1 ≤ s1 ∧ s1 ≤ 10) ∧ (s0 = 5 → s4 ≤ 7) := by
  unfold VK at h
  (repeat' split at h) <;> simp only [Bool.and_eq_true, beq_iff_eq, In_true, reduceCtorEq] at h <;> omega
theorem GoodP_step {l : List S51} (h : GoodP l = true) (i : Nat) (hi : i < l.length) : VK l[i].f0 l[i].f1 l[i].f2 l[i].f3 l[i].f4 l[i].f5 = true := by
  unfold GoodP at h
  rw [Bool.and_eq_true] at h
  have h4 := allOk_at l.length 0 h.1 i (by omega) (by omega)
  rw [Stepb_getD l i hi] at h4
  unfold stepOk at h4
  rw [Bool.and_eq_true] at h4
  exact h4.1
theorem nx_val (l : List S51) (h : GoodP l = true) (i : Nat) (hi : i < l.length) : nx l (i : Int) = if l[i].f0 = 11 then [] else if l[i].f0 = 8 then [(i : Int) + l[i].f5 + 1] else if l[i].f0 = 9 ∨ l[i].f0 = 10 then [(i : Int) + 1, (i : Int) + l[i].f5 + 1] else [(i : Int) + 1] := by
  obtain ⟨hn, h⟩ := GoodP_at h
  obtain ⟨h1, h2⟩ := h i hi
  unfold nx spec_l2Nexts.f
  rw [if_pos (by omega), if_pos (by omega), Stepb_nat l i hi]
  have e1 : wrap64 ((i : Int) + 1) = (i : Int) + 1 := wrap_id _ (by omega) (by omega)
  rw [e1]
  by_cases h11 : l[i].f0 = 11
  · rw [if_pos h11, if_pos h11]; rfl
  rw [if_neg h11, if_neg h11]
  by_cases h8 : l[i].f0 = 8
  · have := h1 (Or.inl h8)
    rw [if_pos h8, if_pos h8, wrap_id ((i : Int) + l[i].f5) (by omega) (by omega), wrap_id _ (by omega) (by omega)]; rfl
  rw [if_neg h8, if_neg h8]
  by_cases h9 : l[i].f0 = 9
  · have := h1 (Or.inr (Or.inl h9))
    rw [if_pos h9, if_pos (Or.inl h9), wrap_id ((i : Int) + l[i].f5) (by omega) (by omega), wrap_id _ (by omega) (by omega)]; rfl
  rw [if_neg h9]
  by_cases h10 : l[i].f0 = 10
  · have := h1 (Or.inr (Or.inr h10))
    rw [if_pos h10, if_pos (Or.inr h10), wrap_id ((i : Int) + l[i].f5) (by omega) (by omega), wrap_id _ (by omega) (by omega)]; rfl
  rw [if_neg h10, if_neg (by omega)]; rfl
def Wd (n : Nat) (R : List Int) : Prop := R.length = n ∧ ∀ x, x ∈ R → 0 ≤ x ∧ x ≤ 65535
theorem Wd.rd {n : Nat} {R : List Int} (h : Wd n R) {i : Int} (h0 : 0 ≤ i) (h1 : i < (n : Int)) : 0 ≤ rd R i ∧ rd R i ≤ 65535 := by
  obtain ⟨j, rfl⟩ := Int.eq_ofNat_of_zero_le h0
  have hj : j < R.length := by have := h.1; omega
  rw [rd_nat R j hj]
  exact h.2 _ (List.getElem_mem hj)
theorem Wd.set {n : Nat} {R : List Int} (h : Wd n R) (i : Nat) {x : Int} (hx : 0 ≤ x ∧ x ≤ 65535) : Wd n (R.set i x) :=
  ⟨by rw [List.length_set]; exact h.1, fun y hy => by
    rcases List.mem_or_eq_of_mem_set hy with hy | rfl
    · exact h.2 y hy
    · exact hx⟩
def Goes (l : List S51) (a : Nat) (q : Int × Bool × Int × List Int × List Int × List Bool) : Prop :=
  q.1 = 0 → q.2.1 = false → (∃ b : Nat, q.2.2.1 = (b : Int) ∧ (b : Int) ∈ nx l (a : Int)) ∧ Wd 6 q.2.2.2.1 ∧ Wd 16 q.2.2.2.2.1 ∧ q.2.2.2.2.2.length = 16
theorem Goes.bad {l : List S51} {a : Nat} {e : Int} (h : e ≠ 0) {x : Bool} {y : Int} {z w : List Int} {v : List Bool} : Goes l a (e, x, y, z, w, v) := fun h' => absurd h' h
theorem Goes.halt {l : List S51} {a : Nat} {e : Int} {y : Int} {z w : List Int} {v : List Bool} : Goes l a (e, true, y, z, w, v) := fun _ h' => absurd (show true = false from h') (by decide)
theorem jump_nat {a n : Nat} {z : Int} (hn : n ≤ 20) (h1 : 1 ≤ z) (h2 : (a : Int) + z + 1 < n) : ∃ b : Nat, wrap64 (((a + 1 : Nat) : Int) + z) = (b : Int) ∧ (b : Int) = (a : Int) + z + 1 := by
  refine ⟨((a : Int) + z + 1).toNat, ?_, by omega⟩
  rw [wrap_id (((a + 1 : Nat) : Int) + z) (by omega) (by omega)]; omega
theorem kinds {x : Int} (h : 1 ≤ x ∧ x ≤ 11) : x = 1 ∨ x = 2 ∨ x = 3 ∨ x = 4 ∨ x = 5 ∨ x = 6 ∨ x = 7 ∨ x = 8 ∨ x = 9 ∨ x = 10 ∨ x = 11 := by omega
set_option maxHeartbeats 2000000 in
theorem stp_ok (l : List S51) (hg : GoodP l = true) (ctx : List Int) (h8 : ctx.length = 8) (hc : ∀ x, x ∈ ctx → 0 ≤ x ∧ x ≤ 255) (a : Nat) (ha : a < l.length) (R C : List Int) (S : List Bool) (hR : Wd 6 R) (hC : Wd 16 C) (hS : S.length = 16) : ∃ q, impl_run.stp l[a] ctx (a : Int) R C S = some q ∧ Goes l a q := by
  have hv := GoodP_step hg a ha
  obtain ⟨k2, k3, k4, k0, k1, k5⟩ := VK_ok hv
  have hn := nx_val l hg a ha
  obtain ⟨hlen, hat⟩ := GoodP_at hg
  obtain ⟨j1, j2⟩ := hat a ha
  have r2 := hR.rd (i := l[a].f2) k2.1 (by omega)
  have r3 := hR.rd (i := l[a].f3) k3.1 (by omega)
  have e1 : wrap64 ((a : Int) + 1) = ((a + 1 : Nat) : Int) := w1 a (by omega)
  have plain : l[a].f0 ≠ 11 → l[a].f0 ≠ 8 → l[a].f0 ≠ 9 → l[a].f0 ≠ 10 → ((a + 1 : Nat) : Int) ∈ nx l (a : Int) := by
    intro a1 a2 a3 a4
    rw [hn, if_neg a1, if_neg a2, if_neg (by omega)]
    exact List.mem_singleton.2 (by omega)
  unfold impl_run.stp
  rw [e1]
  by_cases c1 : l[a].f0 = 1
  · rw [if_pos c1]
    obtain ⟨t, ht, hb⟩ := do_word l[a].f1 (rd R l[a].f2) (rd R l[a].f3) (k1 (Or.inl c1)) r2 r3
    rw [ht]
    exact ⟨_, rfl, fun _ _ => ⟨⟨_, rfl, plain (by omega) (by omega) (by omega) (by omega)⟩, hR.set _ hb, hC, hS⟩⟩
  rw [if_neg c1]
  by_cases c2 : l[a].f0 = 2
  · rw [if_pos c2]
    obtain ⟨t, ht, hb⟩ := do_word l[a].f1 (rd R l[a].f2) l[a].f4 (k1 (Or.inr c2)) r2 k4
    rw [ht]
    exact ⟨_, rfl, fun _ _ => ⟨⟨_, rfl, plain (by omega) (by omega) (by omega) (by omega)⟩, hR.set _ hb, hC, hS⟩⟩
  rw [if_neg c2]
  by_cases c3 : l[a].f0 = 3 ∨ l[a].f0 = 4
  · rw [if_pos c3]
    exact ⟨_, rfl, fun _ _ => ⟨⟨_, rfl, plain (by omega) (by omega) (by omega) (by omega)⟩, hR.set _ k4, hC, hS⟩⟩
  rw [if_neg c3]
  by_cases c5 : l[a].f0 = 5
  · rw [if_pos c5, wrap_id (rd R l[a].f3 + l[a].f4) (by omega) (by omega)]
    by_cases d1 : rd R l[a].f3 + l[a].f4 ≥ 8
    · rw [if_pos d1]; exact ⟨_, rfl, Goes.bad (by decide)⟩
    · rw [if_neg d1, if_pos (by omega)]
      have hx : 0 ≤ rd ctx (rd R l[a].f3 + l[a].f4) ∧ rd ctx (rd R l[a].f3 + l[a].f4) ≤ 65535 := by
        obtain ⟨j, hj⟩ := Int.eq_ofNat_of_zero_le (show 0 ≤ rd R l[a].f3 + l[a].f4 by omega)
        rw [hj, rd_nat ctx j (by omega)]
        have := hc _ (List.getElem_mem (show j < ctx.length by omega)); omega
      exact ⟨_, rfl, fun _ _ => ⟨⟨_, rfl, plain (by omega) (by omega) (by omega) (by omega)⟩, hR.set _ hx, hC, hS⟩⟩
  rw [if_neg c5]
  by_cases c7 : l[a].f0 = 7
  · rw [if_pos c7]
    by_cases d1 : l[a].f4 ≥ 16
    · rw [if_pos d1]; exact ⟨_, rfl, Goes.bad (by decide)⟩
    · rw [if_neg d1]
      exact ⟨_, rfl, fun _ _ => ⟨⟨_, rfl, plain (by omega) (by omega) (by omega) (by omega)⟩, hR, hC.set _ r2, by simp only [List.length_set]; exact hS⟩⟩
  rw [if_neg c7]
  by_cases c6 : l[a].f0 = 6
  · rw [if_pos c6]
    by_cases d1 : l[a].f4 ≥ 16
    · rw [if_pos d1]; exact ⟨_, rfl, Goes.bad (by decide)⟩
    · rw [if_neg d1]
      by_cases d2 : rdOf false S l[a].f4 = true
      · rw [if_pos d2]
        exact ⟨_, rfl, fun _ _ => ⟨⟨_, rfl, plain (by omega) (by omega) (by omega) (by omega)⟩, hR.set _ (hC.rd k4.1 (by omega)), hC, hS⟩⟩
      · rw [if_neg d2]; exact ⟨_, rfl, Goes.bad (by decide)⟩
  rw [if_neg c6]
  by_cases c11 : l[a].f0 = 11
  · rw [if_pos c11]; exact ⟨_, rfl, Goes.halt⟩
  rw [if_neg c11]
  have jump : (l[a].f0 = 8 ∨ l[a].f0 = 9 ∨ l[a].f0 = 10) → ∃ b : Nat, wrap64 (((a + 1 : Nat) : Int) + l[a].f5) = (b : Int) ∧ (b : Int) = (a : Int) + l[a].f5 + 1 := by
    intro h
    obtain ⟨q1, q2⟩ := j1 h
    exact jump_nat hlen.2 q1 q2
  by_cases c8 : l[a].f0 = 8
  · rw [if_pos c8]
    obtain ⟨b, hb, hb2⟩ := jump (Or.inl c8)
    rw [hb]
    exact ⟨_, rfl, fun _ _ => ⟨⟨b, rfl, by rw [hn, if_neg c11, if_pos c8, hb2]; exact List.mem_singleton.2 rfl⟩, hR, hC, hS⟩⟩
  rw [if_neg c8]
  have both : (l[a].f0 = 9 ∨ l[a].f0 = 10) → ∀ (c : Prop) [Decidable c], ∃ b : Nat, (if c then wrap64 (((a + 1 : Nat) : Int) + l[a].f5) else ((a + 1 : Nat) : Int)) = (b : Int) ∧ (b : Int) ∈ nx l (a : Int) := by
    intro h c _
    rw [hn, if_neg c11, if_neg c8, if_pos h]
    by_cases hc : c
    · rw [if_pos hc]
      obtain ⟨b, hb, hb2⟩ := jump (Or.inr h)
      exact ⟨b, hb, by rw [hb2]; simp⟩
    · rw [if_neg hc]
      exact ⟨a + 1, rfl, by simp⟩
  by_cases c9 : l[a].f0 = 9
  · rw [if_pos c9]
    exact ⟨_, rfl, fun _ _ => ⟨both (Or.inl c9) _, hR, hC, hS⟩⟩
  rw [if_neg c9]
  by_cases c10 : l[a].f0 = 10
  · rw [if_pos c10]
    exact ⟨_, rfl, fun _ _ => ⟨both (Or.inr c10) _, hR, hC, hS⟩⟩
  rcases kinds k0 with h | h | h | h | h | h | h | h | h | h | h
  · exact absurd h c1
  · exact absurd h c2
  · exact absurd (Or.inl h) c3
  · exact absurd (Or.inr h) c3
  · exact absurd h c5
  · exact absurd h c6
  · exact absurd h c7
  · exact absurd h c8
  · exact absurd h c9
  · exact absurd h c10
  · exact absurd h c11
inductive Trail (l : List S51) : List Int → Nat → Prop
  | one : Trail l [0] 0
  | snoc {t : List Int} {a b : Nat} : Trail l t a → (b : Int) ∈ nx l (a : Int) → Trail l (t ++ [(b : Int)]) b
theorem Trail.way {l : List S51} {t : List Int} {a : Nat} (h : Trail l t a) : (a : Int) ∈ t ∧ Way l (-1) a ∧ ∀ x : Int, x ∉ t.dropLast → Way l x a := by
  induction h with
  | one => exact ⟨by simp, Way.zero, fun _ _ => Way.zero⟩
  | @snoc t a b h hb ih =>
    refine ⟨by simp, Way.step ih.2.1 (by omega) hb, fun x hx => ?_⟩
    rw [List.dropLast_concat] at hx
    exact Way.step (ih.2.2 x (fun q => hx (List.dropLast_subset _ q))) (fun e => hx (e ▸ ih.1)) hb
theorem Trail.part {l : List S51} {t : List Int} {a : Nat} (h : Trail l t a) : ∀ i (hi : i < t.length), ∃ m : Nat, t[i] = (m : Int) ∧ Trail l (t.take (i + 1)) m := by
  induction h with
  | one =>
    intro i hi
    simp only [List.length_singleton] at hi
    obtain rfl : i = 0 := by omega
    exact ⟨0, rfl, Trail.one⟩
  | @snoc t a b h hb ih =>
    intro i hi
    rw [List.length_append, List.length_singleton] at hi
    by_cases e : i < t.length
    · obtain ⟨m, h1, h2⟩ := ih i e
      exact ⟨m, by rw [List.getElem_append_left e]; exact h1, by rw [List.take_append_of_le_length (by omega)]; exact h2⟩
    · have e' : i = t.length := by omega
      subst e'
      refine ⟨b, by rw [List.getElem_concat_length (by rfl) (by simp)], ?_⟩
      rw [List.take_of_length_le (by simp)]
      exact Trail.snoc h hb
theorem Trail.passes {l : List S51} {t : List Int} {a : Nat} (h : Trail l t a) (hl : a < l.length) : ∀ x, x ∈ mustL l a → x ∈ t := by
  intro x hx
  have h0 := flt_ge _ _ _ _ hx
  have h1 := flt_lt _ _ _ _ hx
  obtain ⟨j, rfl⟩ := Int.eq_ofNat_of_zero_le (show 0 ≤ x by omega)
  have hm := (flt_mem _ l.length 0 j (by omega) (by omega)).1 hx
  rw [Bool.or_eq_true, domB_true, decide_eq_true_iff] at hm
  rcases hm with hm | rfl
  · by_cases q : (j : Int) ∈ t.dropLast
    · exact List.dropLast_subset _ q
    · exact absurd (h.way.2.2 _ q) hm
  · exact h.way.1
def Told (l : List S51) (t : List Int) : Prop := t = [] ∨ ∃ a, Trail l t a
theorem run_ok (l : List S51) (hg : GoodP l = true) (ctx : List Int) (h8 : ctx.length = 8) (hc : ∀ x, x ∈ ctx → 0 ≤ x ∧ x ≤ 255) : ∀ (d : Nat) (tr : List Int) (a : Nat) (R C : List Int) (S : List Bool), tr.length + d = 100 → Told l tr → Trail l (tr ++ [(a : Int)]) a → a < l.length → Wd 6 R → Wd 16 C → S.length = 16 → ∃ r1 r2 r3 t, Ev (fun k => impl_run.l0 k l ctx 100 tr (a : Int) R C S) (r1, r2, r3, t) ∧ Told l t ∧ t.length ≤ 101
  | 0, tr, a, R, C, S, hd, hT, hA, ha, hR, hC, hS => ⟨_, _, _, _, Ev.step (fun k => impl_run.l0.eq_2 ..) (Ev.pos (by omega) (Ev.now _)), hT, by omega⟩
  | d + 1, tr, a, R, C, S, hd, hT, hA, ha, hR, hC, hS => by
    obtain ⟨q, hq, hgo⟩ := stp_ok l hg ctx h8 hc a ha R C S hR hC hS
    have hv := GoodP_step hg a ha
    obtain ⟨k2, k3, k4, k0, k1, k5⟩ := VK_ok hv
    have hcond : 0 ≤ (a : Int) ∧ (a : Int) < (l.length : Int) ∧ impl_run.okS (rd_T51 l (a : Int)) ∧ ctx.length = 8 := by
      rw [Stepb_nat l a ha]
      exact ⟨by omega, by omega, ⟨k2.1, by omega, k3.1, by omega, k4.1⟩, h8⟩
    have hlen : (tr ++ [(a : Int)]).length ≤ 101 := by rw [List.length_append, List.length_singleton]; omega
    have go : ∀ r1 r2 r3 t, (Ev (fun k => if q.1 = 0 then (if q.2.1 = true then some (rd q.2.2.2.1 0, 0, 0, tr ++ [(a : Int)]) else impl_run.l0 k l ctx 100 (tr ++ [(a : Int)]) q.2.2.1 q.2.2.2.1 q.2.2.2.2.1 q.2.2.2.2.2) else some (0, q.1, (a : Int), tr ++ [(a : Int)])) (r1, r2, r3, t)) → Ev (fun k => impl_run.l0 k l ctx 100 tr (a : Int) R C S) (r1, r2, r3, t) := by
      intro r1 r2 r3 t h
      refine Ev.step (fun k => impl_run.l0.eq_2 ..) (Ev.neg (by omega) (Ev.pos (by omega) (Ev.pos hcond ?_)))
      rw [Stepb_nat l a ha, hq]
      exact h
    by_cases e1 : q.1 = 0
    · by_cases e2 : q.2.1 = true
      · exact ⟨_, _, _, _, go _ _ _ _ (Ev.pos e1 (Ev.pos e2 (Ev.now _))), Or.inr ⟨a, hA⟩, hlen⟩
      · obtain ⟨⟨b, hb, hb2⟩, hR', hC', hS'⟩ := hgo e1 (Bool.eq_false_iff.mpr e2)
        have hbl := (nx_in l hg a _ hb2).2.2
        obtain ⟨r1, r2, r3, t, h1, h2, h3⟩ := run_ok l hg ctx h8 hc d (tr ++ [(a : Int)]) b _ _ _ (by rw [List.length_append, List.length_singleton]; omega) (Or.inr ⟨a, hA⟩) (Trail.snoc hA hb2) (by omega) hR' hC' hS'
        rw [← hb] at h1
        exact ⟨r1, r2, r3, t, go _ _ _ _ (Ev.pos e1 (Ev.neg e2 h1)), h2, h3⟩
    · exact ⟨_, _, _, _, go _ _ _ _ (Ev.neg e1 (Ev.now _)), Or.inr ⟨a, hA⟩, hlen⟩
theorem traceOf_ok (l : List S51) (ctx : List Int) (hl : l.length ≤ 1048576) (hx : ctx.length ≤ 1048576) : ∃ t f b, Ev (fun k => impl_TraceOf.f k l ctx) (t, f, b) ∧ t.length ≤ 101 ∧ (b = true → GoodP l = true ∧ Told l t) := by
  unfold impl_TraceOf.f
  by_cases hg : GoodP l = true
  · obtain ⟨b, hb, hbt⟩ := ctx_ev ctx hx
    cases b with
    | false => exact ⟨_, _, _, Ev.bind (goodP_impl l (by omega)) (Ev.pos hg (Ev.bind hb (Ev.neg (by simp) (Ev.now _)))), by simp, fun h => by cases h⟩
    | true =>
      obtain ⟨h8, hc⟩ := hbt rfl
      have hn := (GoodP_at hg).1
      obtain ⟨r1, r2, r3, t, h1, h2, h3⟩ := run_ok l hg ctx h8 hc 100 [] 0 (List.replicate 6 0) (List.replicate 16 0) (List.replicate 16 false) rfl (Or.inl rfl) Trail.one (by omega) ⟨by simp, fun x hx => by have := List.eq_of_mem_replicate hx; omega⟩ ⟨by simp, fun x hx => by have := List.eq_of_mem_replicate hx; omega⟩ (by simp)
      exact ⟨t, r2, true, Ev.bind (goodP_impl l (by omega)) (Ev.pos hg (Ev.bind hb (Ev.pos rfl (Ev.bind (a := (r1, r2, r3, t)) h1 (Ev.now _))))), h3, fun _ => ⟨hg, h2⟩⟩
  · exact ⟨_, _, _, Ev.bind (goodP_impl l (by omega)) (Ev.neg hg (Ev.now _)), by simp, fun h => by cases h⟩
theorem mustPass_val (l : List S51) (hg : GoodP l = true) (v : List Bool) (hv : v.length = l.length) (h1 : Ev (fun k => impl_reachable.f k l 0) v) (b : Nat) (hb : b < l.length) (hvb : v.getD b false = true) : Ev (fun k => impl_MustPass.f k l (b : Int)) (mustL l b, true) := by
  have hn := (GoodP_at hg).1
  unfold impl_MustPass.f
  refine Ev.bind (isStep_ev l b (by omega)) (Ev.pos (by rw [hg, In_true.2 (by omega)]; rfl) (Ev.bind h1 (Ev.pos (by omega) (Ev.pos (by omega) ?_))))
  rw [rdOf_bool v b (by omega), ← getD_get v b (by omega)]
  exact Ev.pos hvb (Ev.bind (mustPass_ev l hg b hb) (Ev.now _))
theorem mustPass_none (l : List S51) (hl : l.length ≤ 1048576) (v : List Bool) (hv : v.length = l.length) (h1 : GoodP l = true → Ev (fun k => impl_reachable.f k l 0) v) (a : Int) (h : ¬ (GoodP l = true ∧ (0 ≤ a ∧ a < (l.length : Int)) ∧ v.getD a.toNat false = true)) : Ev (fun k => impl_MustPass.f k l a) ([], false) := by
  unfold impl_MustPass.f
  refine Ev.bind (isStep_ev l a (by omega)) ?_
  by_cases hc : (GoodP l && In a 0 ((l.length : Int) - 1)) = true
  · refine Ev.pos hc ?_
    rw [Bool.and_eq_true] at hc
    have ha := In_true.1 hc.2
    obtain ⟨b, rfl⟩ := Int.eq_ofNat_of_zero_le ha.1
    refine Ev.bind (h1 hc.1) (Ev.pos (by omega) (Ev.pos (by omega) ?_))
    rw [rdOf_bool v b (by omega), ← getD_get v b (by omega)]
    exact Ev.neg (fun q => h ⟨hc.1, by omega, by rw [Int.toNat_natCast]; exact q⟩) (Ev.now _)
  · exact Ev.neg hc (Ev.now _)
noncomputable def nearF (l : List S51) (v : List Bool) (i : Nat) : Int := if v.getD i false = true ∧ 0 < i then rd (mustL l i) (((mustL l i).length : Int) - 2) else -1
theorem near_val_loop (l : List S51) (hg : GoodP l = true) (v : List Bool) (hv : v.length = l.length) : ∀ (d i : Nat) (o : List Int), i + d = l.length → o.length ≤ i → Ev (fun k => impl_NearestOf.l0 k l v o (l.length : Int) (i : Int)) (o ++ (List.range' i d).map (nearF l v), true)
  | 0, i, o, h, ho => by
    refine Ev.step (fun k => impl_NearestOf.l0.eq_2 ..) (Ev.neg (by omega) (Ev.at_ (Ev.now _) (by simp)))
  | d + 1, i, o, h, ho => by
    have hn := (GoodP_at hg).1
    have ih := fun o' h' => near_val_loop l hg v hv d (i + 1) o' (by omega) h'
    refine Ev.step (fun k => impl_NearestOf.l0.eq_2 ..) (Ev.pos (by omega) (Ev.pos (by omega) (Ev.pos (by omega) ?_)))
    rw [rdOf_bool v i (by omega), ← getD_get v i (by omega), w1 i (by omega)]
    have fin : ∀ x, nearF l v i = x → Ev (fun k => impl_NearestOf.l0 k l v (o ++ [x]) (l.length : Int) ((i + 1 : Nat) : Int)) (o ++ (List.range' i (d + 1)).map (nearF l v), true) := by
      intro x hx
      have := ih (o ++ [x]) (by rw [List.length_append, List.length_singleton]; omega)
      rw [List.range'_succ, List.map_cons, hx]
      rw [List.append_assoc] at this
      exact this
    by_cases hb : v.getD i false = true
    · refine Ev.pos hb ?_
      by_cases h0 : 0 < i
      · have h2 := mustL_two l hg i (by omega) h0
        have h3 := mustL_len l i
        refine Ev.pos (by omega) (Ev.bind (mustPass_ev l hg i (by omega)) ?_)
        rw [wrap_id (((mustL l i).length : Int) - 2) (by omega) (by omega)]
        exact Ev.pos (by omega) (Ev.pos (by omega) (Ev.pos (by omega) (fin _ (by unfold nearF; rw [if_pos ⟨hb, h0⟩]))))
      · exact Ev.neg (by omega) (Ev.pos (by omega) (fin _ (by unfold nearF; rw [if_neg (fun q => h0 q.2)])))
    · exact Ev.neg hb (Ev.pos (by omega) (fin _ (by unfold nearF; rw [if_neg (fun q => hb q.1)])))
theorem near_val (l : List S51) (hg : GoodP l = true) (v : List Bool) (hv : v.length = l.length) (h1 : Ev (fun k => impl_reachable.f k l 0) v) : Ev (fun k => impl_NearestOf.f k l) ((List.range' 0 l.length).map (nearF l v), true) := by
  have hn := (GoodP_at hg).1
  have h := near_val_loop l hg v hv l.length 0 [] (by omega) (by simp)
  rw [List.nil_append] at h
  unfold impl_NearestOf.f
  exact Ev.bind (goodP_impl l (by omega)) (Ev.pos hg (Ev.bind h1 h))
theorem drawTrace {l : List Int} (hl : Bytes l) : EvP (fun k => spec_DrawTraceOf.f k l) (fun r => r.1.length ≤ 20 ∧ r.2.length ≤ 8) := by
  unfold spec_DrawTraceOf.f
  refine EvP.bind (drawProgram hl) (fun r hr => ?_)
  refine EvP.bind (P := fun q => q.1.length ≤ 8) ?_ (fun q hq => EvP.now _ ⟨hr.1, hq⟩)
  have loop : ∀ (d i : Nat) (o : List Int) (a s : Int), i + d = 8 → o.length = i → 0 ≤ a → a ≤ 2000 + 10 * (i : Int) → EvP (fun k => spec_l1Cur_ctx.l0 k o (i : Int) l a s) (fun q => q.1.length ≤ 8) := by
    intro d
    induction d with
    | zero =>
      intro i o a s hd ho h0 h1
      refine EvP.step (fun k => spec_l1Cur_ctx.l0.eq_2 ..) (EvP.neg (by omega) ?_)
      obtain ⟨⟨b, a1, s1⟩, e1, g1, g2⟩ := one_ok hl a s 30 h0 (by omega)
      simp only at g1 g2
      rw [e1]; simp only [Option.bind_some]
      refine EvP.ite (fun _ => ?_) (fun _ => EvP.now _ (by simp only; omega))
      obtain ⟨⟨x, a2, s2⟩, e2, _, g3, g4⟩ := among_ok hl a1 s1 [-1, 256] (by simp) (by simp) (by omega) (by omega)
      rw [e2]; simp only [Option.bind_some]
      exact EvP.pos (by omega) (EvP.now _ (by simp only [List.length_set]; omega))
    | succ d ih =>
      intro i o a s hd ho h0 h1
      refine EvP.step (fun k => spec_l1Cur_ctx.l0.eq_2 ..) (EvP.pos (by omega) ?_)
      obtain ⟨⟨x, a1, s1⟩, e1, _, g1, g2⟩ := pick_ok hl a s 256 h0 (by omega)
      simp only at g1 g2
      rw [e1]; simp only [Option.bind_some]
      obtain ⟨⟨y, a2, s2⟩, e2, _, g3, g4⟩ := among_ok hl a1 s1 [0, 1, 7, 8, 255, x] (by simp) (by simp) (by omega) (by omega)
      simp only at g3 g4
      rw [e2]; simp only [Option.bind_some]
      refine EvP.pos (by omega) ?_
      rw [w1 i (by omega)]
      exact ih (i + 1) (o ++ [y]) a2 s2 (by omega) (by rw [List.length_append, List.length_singleton]; omega) (by omega) (by omega)
  unfold spec_l1Cur_ctx.f
  exact loop 8 0 [] _ _ rfl rfl hr.2.1 (by have := hr.2.2; omega)
theorem passed_l3 (q : List S51) (at_ : Int) (m a x A : List Int) (i : Int) (hm : m.length ≤ 1048576) (hx : x.length ≤ 1048576) (hall : ∀ y, y ∈ m → y ≠ at_ → y ∈ x) (nxt : Ev (fun k => laws_FnPassed.l2 k q at_ m a true A (A.length : Int) (wrap64 (i + 1))) true) : ∀ (d j : Nat), j + d = m.length → Ev (fun k => laws_FnPassed.l3 k q at_ m a true x A (A.length : Int) i m (m.length : Int) (j : Int)) true
  | 0, j, h => Ev.step (fun k => laws_FnPassed.l3.eq_2 ..) (Ev.neg (by omega) nxt)
  | d + 1, j, h => by
    have hj : j < m.length := by omega
    have ih := passed_l3 q at_ m a x A i hm hx hall nxt d (j + 1) (by omega)
    refine Ev.step (fun k => laws_FnPassed.l3.eq_2 ..) (Ev.pos (by omega) (Ev.pos (by omega) (Ev.pos (by omega) ?_)))
    rw [rd_nat m j hj, w1 j (by omega)]
    by_cases e : m[j] = at_
    · exact Ev.pos e ih
    · exact Ev.neg e (Ev.bind (has_ev x m[j] (by omega)) (Ev.pos (decide_eq_true (hall _ (List.getElem_mem hj) e)) ih))
theorem passed_l2 (q : List S51) (hg : GoodP q = true) (v : List Bool) (hv : v.length = q.length) (h1 : Ev (fun k => impl_reachable.f k q 0) v) (hway : ∀ j : Nat, v.getD j false = true ↔ Way q (-1) j) (b : Nat) (hb : b < q.length) (A : List Int) (hA : ∀ y, y ∈ A → ∃ m : Nat, y = (m : Int) ∧ Way q (-1) m ∧ (b : Int) ∈ nx q (m : Int)) (hAl : A.length ≤ 20) (hz : A = [] → b = 0) : ∀ (d i : Nat), i + d = A.length → Ev (fun k => laws_FnPassed.l2 k q (b : Int) (mustL q b) A true A (A.length : Int) (i : Int)) true
  | 0, i, h => by
    refine Ev.step (fun k => laws_FnPassed.l2.eq_2 ..) (Ev.neg (by omega) (Ev.pos rfl ?_))
    by_cases e : A = []
    · refine Ev.neg (by rw [e]; simp) (Ev.at_ (Ev.now _) ?_)
      rw [hz e]; rfl
    · exact Ev.pos (by have := List.length_pos_iff.2 e; omega) (Ev.now _)
  | d + 1, i, h => by
    have hn := (GoodP_at hg).1
    have hi : i < A.length := by omega
    obtain ⟨m, hm, hw, hnx⟩ := hA A[i] (List.getElem_mem hi)
    have hml := nx_in q hg m _ hnx
    have l1 := mustL_len q b
    have l2 := mustL_len q m
    have ih := passed_l2 q hg v hv h1 hway b hb A hA hAl hz d (i + 1) (by omega)
    rw [← w1 i (by omega)] at ih
    refine Ev.step (fun k => laws_FnPassed.l2.eq_2 ..) (Ev.pos (by omega) (Ev.pos (by omega) (Ev.pos (by omega) ?_)))
    rw [rd_nat A i hi, hm]
    refine Ev.bind (mustPass_val q hg v hv h1 m hml.1 ((hway m).2 hw)) (Ev.pos rfl ?_)
    refine passed_l3 q (b : Int) (mustL q b) A (mustL q m) A (i : Int) (by omega) (by omega) (fun y hy hne => ?_) ih (mustL q b).length 0 (by omega)
    have y0 := flt_ge _ _ _ _ hy
    have y1 := flt_lt _ _ _ _ hy
    obtain ⟨j, rfl⟩ := Int.eq_ofNat_of_zero_le (show 0 ≤ y by omega)
    have hmem := (flt_mem _ q.length 0 j (by omega) (by omega)).1 hy
    refine (flt_mem _ q.length 0 j (by omega) (by omega)).2 ?_
    rw [Bool.or_eq_true, domB_true, decide_eq_true_iff] at hmem ⊢
    rcases hmem with hmem | rfl
    · by_cases e : j = m
      · exact Or.inr e
      · exact Or.inl (fun hwj => hmem (Way.step hwj (by omega) hnx))
    · exact absurd rfl hne
theorem passed_tail {l : List Int} (hl : Bytes l) : Ev (fun k => laws_FnPassed.j5 k l) true := by
  refine Ev.step (fun k => laws_FnPassed.j5.eq_2 ..) ?_
  have hd : EvP (fun k => spec_DrawMustPass.f k l) (fun r => r.1.length ≤ 20) := by
    unfold spec_DrawMustPass.f
    exact EvP.bind (drawNextsOf hl) (fun r hr => EvP.now _ hr)
  obtain ⟨⟨q, a⟩, e1, hq⟩ := hd
  simp only at hq
  obtain ⟨⟨m, ok⟩, s1, s2, s3⟩ := mustPass_both q a (by omega)
  simp only at s3
  refine Ev.bind e1 (Ev.bind s2 (Ev.bind s1 (Ev.neg (by simp) (Ev.bind (sameInts_self m (by omega)) ?_))))
  refine Ev.step (fun k => laws_FnPassed.j6.eq_2 ..) (Ev.neg (by simp) ?_)
  cases ok with
  | false => exact Ev.neg (by simp) (Ev.now _)
  | true =>
    by_cases hg : GoodP q = true
    · have hn := (GoodP_at hg).1
      obtain ⟨v, hv, r1, _, hway⟩ := reach_way q hg
      by_cases hc : (0 ≤ a ∧ a < (q.length : Int)) ∧ v.getD a.toNat false = true
      · obtain ⟨b, rfl⟩ := Int.eq_ofNat_of_zero_le hc.1.1
        rw [Int.toNat_natCast] at hc
        have hb : b < q.length := by omega
        have c1 := Ev.one s2 (mustPass_val q hg v hv r1 b hb hc.2)
        obtain ⟨rfl, _⟩ := Prod.mk.inj c1
        have hlen := flt_len (fun j => v.getD j false && decide ((b : Int) ∈ nx q (j : Int))) q.length 0
        have hmem : ∀ y, y ∈ flt (fun j => v.getD j false && decide ((b : Int) ∈ nx q (j : Int))) q.length 0 → ∃ m : Nat, y = (m : Int) ∧ Way q (-1) m ∧ (b : Int) ∈ nx q (m : Int) := by
          intro y hy
          have y0 := flt_ge _ _ _ _ hy
          have y1 := flt_lt _ _ _ _ hy
          obtain ⟨j, rfl⟩ := Int.eq_ofNat_of_zero_le (show 0 ≤ y by omega)
          have := (flt_mem _ q.length 0 j (by omega) (by omega)).1 hy
          rw [Bool.and_eq_true, decide_eq_true_iff] at this
          exact ⟨j, rfl, (hway j).1 this.1, this.2⟩
        refine Ev.pos rfl (Ev.bind (aheadOf_val q hg b hb v hv r1) ?_)
        refine passed_l2 q hg v hv r1 hway b hb _ hmem (by omega) (fun hz => ?_) _ 0 (Nat.zero_add _)
        cases (hway b).1 hc.2 with
        | zero => rfl
        | @step c _ w1' w2 w3 =>
          have hcl := nx_in q hg c _ w3
          have := (flt_mem (fun j => v.getD j false && decide ((b : Int) ∈ nx q (j : Int))) q.length 0 c (by omega) (by omega)).2 (by rw [Bool.and_eq_true, decide_eq_true_iff]; exact ⟨(hway c).2 w1', w3⟩)
          rw [hz] at this
          cases this
      · have c1 := Ev.one s2 (mustPass_none q (by omega) v hv (fun _ => r1) a (fun h => hc h.2))
        cases c1
    · have c1 := Ev.one s2 (mustPass_none q (by omega) (List.replicate q.length false) (by simp) (fun h => absurd h hg) a (fun h => hg h.1))
      cases c1
theorem passed_l1 (y : List Int) (p : List S51) (t n r m : List Int) (i : Nat) (a : Int) (hi : i < t.length) (ht : t.length ≤ 101) (hm : m.length ≤ 1048576) (hall : ∀ x, x ∈ m → x ∈ t.take (i + 1)) (fin : Ev (fun k => if a > 0 then (if (m.length : Int) < 2 then (some false) else (if a ≥ (n.length : Int) then (some false) else (if 0 ≤ a then (if a < (n.length : Int) then (if 0 ≤ (wrap64 ((m.length : Int) - 2)) then (if (wrap64 ((m.length : Int) - 2)) < (m.length : Int) then (if (rd n a) = (rd m (wrap64 ((m.length : Int) - 2))) then (laws_FnPassed.l0 k y p t n r t (t.length : Int) (wrap64 ((i : Int) + 1))) else (some false)) else (none)) else (none)) else (none)) else (none)))) else (laws_FnPassed.l0 k y p t n r t (t.length : Int) (wrap64 ((i : Int) + 1)))) true) : ∀ (d j : Nat), j + d = m.length → Ev (fun k => laws_FnPassed.l1 k y p t n r (i : Int) a m t (t.length : Int) (i : Int) m (m.length : Int) (j : Int)) true
  | 0, j, h => Ev.step (fun k => laws_FnPassed.l1.eq_2 ..) (Ev.neg (by omega) fin)
  | d + 1, j, h => by
    have hj : j < m.length := by omega
    have ih := passed_l1 y p t n r m i a hi ht hm hall fin d (j + 1) (by omega)
    have e1 := w1 i (by omega)
    refine Ev.step (fun k => laws_FnPassed.l1.eq_2 ..) (Ev.pos (by omega) (Ev.pos (by omega) (Ev.pos (by omega) ?_)))
    rw [rd_nat m j hj, w1 j (by omega), e1, Int.toNat_natCast]
    exact Ev.pos (by omega) (Ev.pos (by omega) (Ev.bind (has_ev (t.take (i + 1)) m[j] (by rw [List.length_take]; omega)) (Ev.pos (decide_eq_true (hall _ (List.getElem_mem hj))) ih)))
theorem passed_l0 {y : List Int} (hy : Bytes y) (p : List S51) (hg : GoodP p = true) (v : List Bool) (hv : v.length = p.length) (h1 : Ev (fun k => impl_reachable.f k p 0) v) (hway : ∀ j : Nat, v.getD j false = true ↔ Way p (-1) j) (t : List Int) (ht : t.length ≤ 101) (hT : ∀ i (hi : i < t.length), ∃ m : Nat, t[i] = (m : Int) ∧ Trail p (t.take (i + 1)) m) : ∀ (d i : Nat), i + d = t.length → Ev (fun k => laws_FnPassed.l0 k y p t ((List.range' 0 p.length).map (nearF p v)) (tr v 0) t (t.length : Int) (i : Int)) true
  | 0, i, h => Ev.step (fun k => laws_FnPassed.l0.eq_2 ..) (Ev.neg (by omega) (passed_tail hy))
  | d + 1, i, h => by
    have hn := (GoodP_at hg).1
    have hi : i < t.length := by omega
    have hlen := tr_len v 0
    obtain ⟨m, hm, htr⟩ := hT i hi
    have hw := htr.way.2.1
    have hvm := (hway m).2 hw
    have hml : m < p.length := by
      by_cases q : m < v.length
      · omega
      · have hf : v.getD m false = false := by simp only [List.getD, List.getElem?_eq_none (show v.length ≤ m by omega)]; rfl
        rw [hf] at hvm; cases hvm
    have ih := passed_l0 hy p hg v hv h1 hway t ht hT d (i + 1) (by omega)
    rw [← w1 i (by omega)] at ih
    have l1 := mustL_len p m
    have hr : decide ((m : Int) ∈ tr v 0) = true := by rw [tr_mem0 v m (by omega)]; exact hvm
    refine Ev.step (fun k => laws_FnPassed.l0.eq_2 ..) (Ev.pos (by omega) (Ev.pos (by omega) (Ev.pos (by omega) ?_)))
    rw [rd_nat t i hi, hm]
    refine Ev.bind (mustPass_val p hg v hv h1 m hml hvm) (Ev.pos rfl (Ev.bind (has_ev (tr v 0) (m : Int) (by omega)) ?_))
    rw [hr]
    refine Ev.step (fun k => laws_FnPassed.j3.eq_2 ..) (Ev.neg (by simp) ?_)
    refine passed_l1 y p t _ (tr v 0) (mustL p m) i (m : Int) hi ht (by omega) (htr.passes hml) ?_ (mustL p m).length 0 (by omega)
    by_cases h0 : 0 < m
    · have h2 := mustL_two p hg m hml h0
      rw [wrap_id (((mustL p m).length : Int) - 2) (by omega) (by omega)]
      have hnl : ((List.range' 0 p.length).map (nearF p v)).length = p.length := by simp
      have hrd : rd ((List.range' 0 p.length).map (nearF p v)) (m : Int) = rd (mustL p m) (((mustL p m).length : Int) - 2) := by
        rw [rd_nat _ m (by omega), List.getElem_map, List.getElem_range']
        unfold nearF
        rw [if_pos (by simpa using And.intro hvm h0)]
        simp
      exact Ev.pos (by omega) (Ev.neg (by omega) (Ev.neg (by omega) (Ev.pos (by omega) (Ev.pos (by omega) (Ev.pos (by omega) (Ev.pos (by omega) (Ev.pos hrd ih)))))))
    · exact Ev.neg (by omega) ih
theorem FnPassed : laws_FnPassed.Pure := by
  intro l0 l1 _ y0 hw0 _ y1 hw1
  refine Ev.rounds ?_
  unfold laws_FnPassed.f
  by_cases hlen : wrap64 ((l0.length : Int) + (l1.length : Int)) > 1048576
  · exact Ev.pos hlen (Ev.now _)
  refine Ev.neg hlen ?_
  obtain ⟨s0, s1⟩ := small_of hlen y0 y1
  have hb0 := bytes_of ⟨y0, hw0⟩ s0
  have hb1 := bytes_of ⟨y1, hw1⟩ s1
  obtain ⟨⟨p, ctx⟩, e1, hp, hx⟩ := drawTrace hb0
  simp only at hp hx
  obtain ⟨t, f, ok, e2, ht, hok⟩ := traceOf_ok p ctx (by omega) (by omega)
  obtain ⟨⟨n, one⟩, a1, a2, a3⟩ := nearestOf_both p (by omega)
  obtain ⟨⟨r, two⟩, b1, b2, b3⟩ := reachedIn_both p (by omega)
  simp only at a3 b3
  refine Ev.bind e1 <| Ev.bind e2 <| Ev.bind a2 <| Ev.bind a1 <| Ev.bind b2 <| Ev.bind b1 <| Ev.neg (by simp) <| Ev.bind (sameInts_self n (by omega)) <| Ev.pos rfl <| Ev.neg (by simp) <| Ev.bind (sameInts_self r (by omega)) ?_
  refine Ev.step (fun k => laws_FnPassed.j0.eq_2 ..) (Ev.neg (by simp) ?_)
  cases ok with
  | false => exact Ev.neg (by simp) (Ev.step (fun k => laws_FnPassed.j1.eq_2 ..) (Ev.neg (by simp) (passed_tail hb1)))
  | true =>
    obtain ⟨hg, hT⟩ := hok rfl
    obtain ⟨v, hv, r1, _, hway⟩ := reach_way p hg
    obtain ⟨rfl, rfl⟩ := Prod.mk.inj (Ev.one a2 (near_val p hg v hv r1))
    obtain ⟨rfl, rfl⟩ := Prod.mk.inj (Ev.one b2 (reachedIn_val p hg v hv r1))
    refine Ev.pos rfl (Ev.step (fun k => laws_FnPassed.j1.eq_2 ..) (Ev.pos rfl ?_))
    refine passed_l0 hb1 p hg v hv r1 hway t ht (fun i hi => ?_) t.length 0 (by omega)
    rcases hT with rfl | ⟨a, hT⟩
    · simp at hi
    · exact hT.part i hi
end Go.Proofs.Ytcmhkgpalfljbaa.Pure
