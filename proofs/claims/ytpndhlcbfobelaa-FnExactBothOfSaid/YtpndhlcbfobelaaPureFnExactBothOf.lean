import Derived.Test.YtpndhlcbfobelaaPDBx10
import Derived.Test.YtpndhlcbfobelaaPDBx11
import Derived.Test.YtpndhlcbfobelaaPDBx2
import Derived.Test.YtpndhlcbfobelaaPDBx3
import Derived.Test.YtpndhlcbfobelaaPDBx4
import Derived.Test.YtpndhlcbfobelaaPDBx5
import Derived.Test.YtpndhlcbfobelaaPDBx6
import Derived.Test.YtpndhlcbfobelaaPDBx7
import Derived.Test.YtpndhlcbfobelaaPDBx8
import Derived.Test.YtpndhlcbfobelaaPDBx9
namespace Go.Proofs.Ytpndhlcbfobelaa.Pure
open Go Go.RowKit Go.Proofs.Ytpndhlcbfobelaa.PDB Go.Proofs.YtpndhlcbfobelaaW.PrintWords Go.Proofs.YtpndhlcbfobelaaW.PrintLast Go.Proofs.YtpndhlcbfobelaaW.PrintMore
set_option linter.unusedVariables false
set_option linter.unusedSimpArgs false
def In (a lo hi : Int) : Bool := decide (lo ≤ a) && decide (a ≤ hi)
theorem In_true {a lo hi : Int} : In a lo hi = true ↔ lo ≤ a ∧ a ≤ hi := by simp [In]
theorem In_ite {a lo hi : Int} : (if a ≥ lo then some (decide (a ≤ hi)) else some false) = some (In a lo hi) := by
  unfold In; by_cases h : lo ≤ a <;> simp [h]
theorem spec_l1In_eq (a b c : Int) : spec_l1In.f a b c = some (In a b c) := by unfold spec_l1In.f; exact In_ite
theorem impl_in_eq (a b c : Int) : impl_in.f a b c = some (In a b c) := by unfold impl_in.f; exact In_ite
def andn (a b : Nat) : Nat := a ^^^ (a &&& b)
theorem wrap_i64_nat (n : Nat) (h : n < 9223372036854775808) : IntKind.i64.wrap (n : Int) = n := by
  rw [IntKind.wrap_i64]; omega
theorem Ev.pos {α : Type} {c : Prop} [Decidable c] {A B : Nat → Option α} {r : α} (h : c) (e : Ev A r) : Ev (fun k => if c then A k else B k) r := Ev.congr (fun _ => if_pos h) e
theorem Ev.neg {α : Type} {c : Prop} [Decidable c] {A B : Nat → Option α} {r : α} (h : ¬ c) (e : Ev B r) : Ev (fun k => if c then A k else B k) r := Ev.congr (fun _ => if_neg h) e
theorem Ev.bindE {α β : Type} {g : Option α} {f : Nat → α → Option β} {a : α} {r : β} (h : g = some a) (k : Ev (fun n => f n a) r) : Ev (fun n => g.bind (f n)) r := by subst h; exact k
theorem Ev.at_ {α : Type} {g : Nat → Option α} {r r' : α} (h : Ev g r) (e : r = r') : Ev g r' := e ▸ h
def Both {α : Type} (P : α → Prop) (g f : Nat → Option α) : Prop := ∃ r, Ev g r ∧ Ev f r ∧ P r
theorem Both.now {α : Type} {P : α → Prop} (r : α) (h : P r) : Both P (fun _ => some r) (fun _ => some r) := ⟨r, Ev.now r, Ev.now r, h⟩
theorem Both.mono {α : Type} {P Q : α → Prop} {g f : Nat → Option α} (h : Both P g f) (hq : ∀ r, P r → Q r) : Both Q g f := by obtain ⟨r, a, b, c⟩ := h; exact ⟨r, a, b, hq r c⟩
theorem Both.congrL {α : Type} {P : α → Prop} {g g' f : Nat → Option α} (e : ∀ k, g k = g' k) (h : Both P g' f) : Both P g f := by obtain ⟨r, a, b, c⟩ := h; exact ⟨r, a.congr e, b, c⟩
theorem Both.congrR {α : Type} {P : α → Prop} {g f f' : Nat → Option α} (e : ∀ k, f k = f' k) (h : Both P g f') : Both P g f := by obtain ⟨r, a, b, c⟩ := h; exact ⟨r, a, b.congr e, c⟩
theorem Both.posL {α : Type} {P : α → Prop} {c : Prop} [Decidable c] {A B f : Nat → Option α} (h : c) (e : Both P A f) : Both P (fun k => if c then A k else B k) f := e.congrL (fun _ => if_pos h)
theorem Both.negL {α : Type} {P : α → Prop} {c : Prop} [Decidable c] {A B f : Nat → Option α} (h : ¬ c) (e : Both P B f) : Both P (fun k => if c then A k else B k) f := e.congrL (fun _ => if_neg h)
theorem Both.posR {α : Type} {P : α → Prop} {c : Prop} [Decidable c] {A B f : Nat → Option α} (h : c) (e : Both P f A) : Both P f (fun k => if c then A k else B k) := e.congrR (fun _ => if_pos h)
theorem Both.negR {α : Type} {P : α → Prop} {c : Prop} [Decidable c] {A B f : Nat → Option α} (h : ¬ c) (e : Both P f B) : Both P f (fun k => if c then A k else B k) := e.congrR (fun _ => if_neg h)
theorem Both.stepL {α : Type} {P : α → Prop} {g g' f : Nat → Option α} (e : ∀ k, g (k + 1) = g' k) (h : Both P g' f) : Both P g f := by obtain ⟨r, a, b, c⟩ := h; exact ⟨r, a.step e, b, c⟩
theorem Both.bindL {α β : Type} {P : β → Prop} {g : Nat → Option α} {F : Nat → α → Option β} {f : Nat → Option β} {a : α} (h : Ev g a) (e : Both P (fun k => F k a) f) : Both P (fun k => (g k).bind (F k)) f := by obtain ⟨r, x, y, c⟩ := e; exact ⟨r, Ev.bind h x, y, c⟩
theorem Both.bindR {α β : Type} {P : β → Prop} {g : Nat → Option α} {F : Nat → α → Option β} {f : Nat → Option β} {a : α} (h : Ev g a) (e : Both P f (fun k => F k a)) : Both P f (fun k => (g k).bind (F k)) := by obtain ⟨r, x, y, c⟩ := e; exact ⟨r, x, Ev.bind h y, c⟩
theorem w1 (i : Nat) (h : i < 4611686018427387904) : wrap64 ((i : Int) + 1) = ((i + 1 : Nat) : Int) := by unfold wrap64; omega
theorem wrap_id (x : Int) (h0 : -9223372036854775808 ≤ x) (h1 : x ≤ 9223372036854775807) : wrap64 x = x := by unfold wrap64; omega
theorem rdOf_nat {α : Type} (d : α) (l : List α) (i : Nat) (h : i < l.length) : rdOf d l (i : Int) = l[i] := by unfold rdOf; simp [List.getD, h]
theorem set_take {α : Type} (l : List α) (i : Nat) (v : α) (h : i < l.length) : (l.set i v).take (i + 1) = l.take i ++ [v] := by
  rw [List.take_succ_eq_append_getElem (by simpa using h), List.take_set_of_le (Nat.le_refl i)]; simp
theorem u64_nat (i : Nat) (h : i < 9223372036854775808) : IntKind.u64.wrap (i : Int) = (i : Int) := by
  have : IntKind.u64.wrap (i : Int) = (i : Int) % 18446744073709551616 := by simp [IntKind.wrap, IntKind.bits, IntKind.signed]
  rw [this]; omega
theorem shl_one (n : Nat) (h : n ≤ 60) : shl .i64 1 (n : Int) = ((2 ^ n : Nat) : Int) := by
  have hb : IntKind.i64.bits = 64 := rfl
  unfold shl
  rw [Int.toNat_natCast, hb, Nat.min_eq_left (by omega), Int.one_mul]
  have h1 : 2 ^ n ≤ 2 ^ 60 := Nat.pow_le_pow_right (by decide) h
  have h2 : ((2 : Int) ^ n) = ((2 ^ n : Nat) : Int) := by rw [Int.natCast_pow]; rfl
  rw [h2]; exact wrap_i64_nat _ (by omega)
def bitM (x : Int) (i : Nat) : Bool := Go.bits .and .i64 (shr .i64 x (i : Int)) 1 == 1
def modelM (n : Nat) (x : Int) : List Bool := (List.range n).map (fun i => bitM x i)
theorem modelM_len (n : Nat) (x : Int) : (modelM n x).length = n := by simp [modelM]
theorem spec_l4Model_loop (n : Nat) (hn : n ≤ 1048576) (x : Int) : ∀ (d i : Nat) (acc : List Bool), i + d = n → acc.length = n → acc.take i = (modelM n x).take i → Ev (fun k => spec_l4Model.l0 k x acc (n : Int) (i : Int)) (modelM n x)
  | 0, i, acc, hi, ha, ht => by
    refine Ev.step (fun k => spec_l4Model.l0.eq_2 ..) (Ev.neg (by omega) ?_)
    rw [List.take_of_length_le (by omega), List.take_of_length_le (by rw [modelM_len]; omega)] at ht
    rw [ht]; exact Ev.now _
  | d + 1, i, acc, hi, ha, ht => by
    refine Ev.step (fun k => spec_l4Model.l0.eq_2 ..) ?_
    rw [u64_nat i (by omega), w1 i (by omega), Int.toNat_natCast]
    refine Ev.pos (by omega) <| Ev.pos (by omega) <| Ev.pos (by omega) <| Ev.pos (by omega) ?_
    refine spec_l4Model_loop n hn x d (i + 1) _ (by omega) (by simpa using ha) ?_
    rw [set_take _ _ _ (by omega), ht, List.take_succ_eq_append_getElem (l := modelM n x) (by rw [modelM_len]; omega)]
    simp [modelM, bitM]
theorem spec_l4Model_ev (n : Nat) (hn : n ≤ 1048576) (x : Int) : Ev (fun k => spec_l4Model.f k (n : Int) x) (modelM n x) := by
  unfold spec_l4Model.f
  refine Ev.pos (by omega) <| Ev.pos (by omega) <| Ev.bindE rfl ?_
  rw [Int.toNat_natCast, List.length_replicate]
  exact spec_l4Model_loop n hn x n 0 _ (by omega) (by simp) (by simp)
def GoodK (v m : Int) : Bool := In v 0 65535 && In m 0 65535 && (Go.bits .and .i64 v m == 0)
def GoodS (lo hi : Int) : Bool := In lo 0 65535 && In hi 0 65535 && decide (lo ≤ hi)
def JoinK (a b c d : Int) : Int × Int := (Go.bits .andNot .i64 a (Go.bits .or .i64 (Go.bits .or .i64 b d) (Go.bits .xor .i64 a c)), Go.bits .or .i64 (Go.bits .or .i64 b d) (Go.bits .xor .i64 a c))
def JoinS (a b c d : Int) : Int × Int := (mn a c, mx b d)
def MeetS (a b c d : Int) : Int × Int × Bool := if mx a c > mn b d then (0, 0, false) else (mx a c, mn b d, true)
def LessS (a b c d : Int) : Int × Int × Int × Int × Bool := if a ≥ d then (0, 0, 0, 0, false) else (a, mn b (wrap64 (d - 1)), mx c (wrap64 (a + 1)), d, true)
theorem Nodea_nat (l : List S101) (i : Nat) (h : i < l.length) : rd_T101 l (i : Int) = l[i] := by unfold rd_T101; simp [List.getD, h]
theorem Nodeb_nat (l : List S75) (i : Nat) (h : i < l.length) : rd_T75 l (i : Int) = l[i] := by unfold rd_T75; simp [List.getD, h]
theorem toNode_eq (a0 a1 a2 : Int) : laws_toNode.f a0 a1 a2 = some (a0, a1, a2) := rfl
def cvNode (x : S101) : S75 := ⟨x.f0, x.f1, x.f2⟩
theorem toNodeS_loop (l : List S101) (hl : l.length ≤ 1099511627776) : ∀ (d i : Nat) (acc : List S75), i + d = l.length → acc.length = l.length → acc.take i = (l.take i).map cvNode → Ev (fun k => laws_toNodeS.l0 k l acc (i : Int)) (l.map cvNode)
  | 0, i, acc, hi, ha, ht => by
    refine Ev.step (fun k => laws_toNodeS.l0.eq_2 ..) ?_
    refine Ev.neg (by omega) ?_
    rw [List.take_of_length_le (by omega), List.take_of_length_le (by omega)] at ht
    rw [ht]; exact Ev.now _
  | d + 1, i, acc, hi, ha, ht => by
    refine Ev.step (fun k => laws_toNodeS.l0.eq_2 ..) ?_
    refine Ev.pos (by omega) (Ev.pos (by omega) (Ev.bindE (toNode_eq ..) (Ev.pos (by omega) ?_)))
    rw [w1 i (by omega), Int.toNat_natCast]
    refine toNodeS_loop l hl d (i + 1) _ (by omega) (by simpa using ha) ?_
    rw [set_take _ _ _ (by omega), ht, List.take_succ_eq_append_getElem (show i < l.length by omega), List.map_append]
    rw [Nodea_nat l i (by omega)]; rfl
theorem toNodeS_ev (l : List S101) (hl : l.length ≤ 1048576) : Ev (fun k => laws_toNodeS.f k l) (l.map cvNode) := by
  unfold laws_toNodeS.f
  refine Ev.pos (by omega) (Ev.pos (by omega) ?_)
  exact toNodeS_loop l (by omega) l.length 0 _ (by omega) (by simp) (by simp)
theorem szNodeS_ok (l : List S101) (a : Int) (h : (l.length : Int) ≤ a) (ha : a ≤ 1048576) : laws_szNodeS.f l a = some (a - l.length) := by
  unfold laws_szNodeS.f; rw [wrap_id _ (by omega) (by omega), if_neg (by omega)]
theorem szNodeS_big (l : List S101) (a : Int) (h : a < (l.length : Int)) (ha : a ≤ 1048576) (h0 : 0 ≤ a) (hl : l.length ≤ maxLen) : laws_szNodeS.f l a = some (-1) := by
  unfold maxLen at hl; unfold laws_szNodeS.f; rw [wrap_id _ (by omega) (by omega), if_pos (by omega)]
theorem eqNode_self (a0 a1 a2 : Int) : laws_eqNode.f a0 a1 a2 a0 a1 a2 = some true := by unfold laws_eqNode.f; simp
theorem eqNodeS_loop (l : List S75) (hl : l.length ≤ 1099511627776) : ∀ (d i : Nat), i + d = l.length → Ev (fun k => laws_eqNodeS.l0 k l l (i : Int)) true
  | 0, i, hi => by
    refine Ev.step (fun k => laws_eqNodeS.l0.eq_2 ..) ?_
    exact Ev.neg (by omega) (Ev.now _)
  | d + 1, i, hi => by
    refine Ev.step (fun k => laws_eqNodeS.l0.eq_2 ..) ?_
    refine Ev.pos (by omega) (Ev.pos (by omega) (Ev.pos (by omega) (Ev.bindE (eqNode_self ..) (Ev.pos rfl ?_))))
    rw [w1 i (by omega)]
    exact eqNodeS_loop l hl d (i + 1) (by omega)
theorem eqNodeS_self (l : List S75) (hl : l.length ≤ 1099511627776) : Ev (fun k => laws_eqNodeS.f k l l) true := by
  unfold laws_eqNodeS.f
  exact Ev.pos rfl (eqNodeS_loop l hl l.length 0 (by omega))
theorem Nodeb_set (l : List S75) (i : Nat) (v : S75) (h : i < l.length) : rd_T75 (l.set i v) (i : Int) = v := by
  rw [Nodeb_nat _ _ (by simpa using h)]; simp
def mkNode (m : Int) (n : Nat) : List S75 := (List.range n).map (fun j : Nat => (⟨m + 3 * j + 0, m + 3 * j + 1, m + 3 * j + 2⟩ : S75))
theorem markNodeS_loop (n : Nat) (m : Int) (hl : n ≤ 1099511627776) (hm : 0 ≤ m ∧ m ≤ 1099511627776) : ∀ (d i : Nat) (acc : List S75), i + d = n → acc.length = n → acc.take i = (mkNode m n).take i → Ev (fun k => laws_markNodeS.l0 k acc (m + 3 * (i : Int)) (i : Int)) (m + 3 * (n : Int), mkNode m n)
  | 0, i, acc, hi, ha, ht => by
    refine Ev.step (fun k => laws_markNodeS.l0.eq_2 ..) ?_
    refine Ev.neg (by omega) ?_
    rw [List.take_of_length_le (by omega), List.take_of_length_le (by simp [mkNode]; omega)] at ht
    obtain rfl : i = n := by omega
    rw [ht]; exact Ev.now _
  | d + 1, i, acc, hi, ha, ht => by
    refine Ev.step (fun k => laws_markNodeS.l0.eq_2 ..) ?_
    have hi' : i < acc.length := by omega
    refine Ev.pos (by omega) (Ev.pos (by omega) (Ev.bindE rfl (Ev.bindE rfl ?_)))
    simp only [Int.toNat_natCast, Nodeb_set _ _ _ hi', List.set_set, List.length_set, wrap64]
    have hb : ∀ x : Int, 0 ≤ x → x < 9223372036854775808 → (x + 9223372036854775808) % 18446744073709551616 - 9223372036854775808 = x := fun x _ _ => by omega
    have e0 : (m + 3 * (i : Int)) = m + 3 * (i : Int) + 0 := by omega
    rw [hb (m + 3 * (i : Int) + 1) (by omega) (by omega), hb (m + 3 * (i : Int) + 1 + 1) (by omega) (by omega), hb (m + 3 * (i : Int) + 1 + 1 + 1) (by omega) (by omega), hb ((i : Int) + 1) (by omega) (by omega)]
    rw [show ((i : Int) + 1) = ((i + 1 : Nat) : Int) by omega, show (m + 3 * (i : Int) + 1 + 1 + 1) = m + 3 * ((i + 1 : Nat) : Int) by omega]
    skip
    refine markNodeS_loop n m hl hm d (i + 1) _ (by omega) (by simpa using ha) ?_
    rw [set_take _ _ _ hi', ht, List.take_succ_eq_append_getElem (l := mkNode m n) (by simp [mkNode]; omega)]
    simp [mkNode, Int.add_assoc]
theorem markNodeS_ev (l : List S75) (m : Int) (hl : l.length ≤ 1099511627776) (hm : 0 ≤ m ∧ m ≤ 1099511627776) : Ev (fun k => laws_markNodeS.f k l m) (m + 3 * (l.length : Int), mkNode m l.length) := by
  unfold laws_markNodeS.f
  have h := markNodeS_loop l.length m hl hm l.length 0 l (by omega) rfl (by simp)
  simpa using h
theorem heldNodeS_loop (n : Nat) (m : Int) (hl : n ≤ 1099511627776) (hm : 0 ≤ m ∧ m ≤ 1099511627776) : ∀ (d i : Nat), i + d = n → Ev (fun k => laws_heldNodeS.l0 k (mkNode m n) (m + 3 * (i : Int)) (i : Int)) (m + 3 * (n : Int))
  | 0, i, hi => by
    have hlen : (mkNode m n).length = n := by simp [mkNode]
    refine Ev.step (fun k => laws_heldNodeS.l0.eq_2 ..) ?_
    refine Ev.neg (by omega) ?_
    obtain rfl : i = n := by omega
    exact Ev.now _
  | d + 1, i, hi => by
    have hlen : (mkNode m n).length = n := by simp [mkNode]
    refine Ev.step (fun k => laws_heldNodeS.l0.eq_2 ..) ?_
    have hg : rd_T75 (mkNode m n) (i : Int) = ⟨m + 3 * (i : Int) + 0, m + 3 * (i : Int) + 1, m + 3 * (i : Int) + 2⟩ := by rw [Nodeb_nat _ _ (by omega)]; simp [mkNode]
    have hb : ∀ x : Int, 0 ≤ x → x < 9223372036854775808 → (x + 9223372036854775808) % 18446744073709551616 - 9223372036854775808 = x := fun x _ _ => by omega
    simp only [hg, wrap64]
    rw [hb (m + 3 * (i : Int) + 1) (by omega) (by omega), hb (m + 3 * (i : Int) + 1 + 1) (by omega) (by omega), hb (m + 3 * (i : Int) + 1 + 1 + 1) (by omega) (by omega), hb ((i : Int) + 1) (by omega) (by omega)]
    refine Ev.pos (by omega) (Ev.pos (by omega) (Ev.pos (by omega) (Ev.pos (by omega) (Ev.pos (by omega) ?_))))
    rw [show ((i : Int) + 1) = ((i + 1 : Nat) : Int) by omega, show (m + 3 * (i : Int) + 1 + 1 + 1) = m + 3 * ((i + 1 : Nat) : Int) by omega]
    exact heldNodeS_loop n m hl hm d (i + 1) (by omega)
theorem heldNodeS_ev (n : Nat) (m : Int) (hl : n ≤ 1099511627776) (hm : 0 ≤ m ∧ m ≤ 1099511627776) : Ev (fun k => laws_heldNodeS.f k (mkNode m n) m) (m + 3 * (n : Int)) := by
  unfold laws_heldNodeS.f
  have h := heldNodeS_loop n m hl hm n 0 (by omega)
  simpa using h
def deposit (m : Nat) : Nat → Nat → Nat → Nat → Nat
  | 0, _, _, out => out
  | d + 1, j, n, out => if m.testBit j = true then deposit m d (j + 1) (n / 2) (out + n % 2 * 2 ^ j) else deposit m d (j + 1) n out
theorem wrap_i64 (y : Int) : IntKind.i64.wrap y = wrap64 y := by
  rw [IntKind.wrap_i64]; unfold wrap64; omega
def EndsM (x y : Int) : Int × Int := if x / 65536 = y / 65536 then (x % 65536, y % 65536) else (0, 65535)
def mayN (v m x : Nat) : Nat := if x = 1 then v ||| m else andn 65535 v
def allIn (lo hi : Int) (l : List Int) : Bool := l.all fun x => In x lo hi
def tr : List Bool → Nat → List Int
  | [], _ => []
  | b :: v, s => if b = true then (s : Int) :: tr v (s + 1) else tr v (s + 1)
def putP : List Int → Int → List Int
  | [], x => [x]
  | a :: l, x => if a < x then a :: putP l x else if a = x then a :: l else x :: a :: l
def trp (f : Nat → Bool) : List Bool → Nat → List Int
  | [], _ => []
  | b :: v, s => if (b && f s) = true then (s : Int) :: trp f v (s + 1) else trp f v (s + 1)
theorem toDiagram_ev (a : Int) (l : List S101) (c : Int) (hl : l.length ≤ 1048576) : Ev (fun k => laws_toDiagram.f k a l c) (a, l.map cvNode, c) := by
  unfold laws_toDiagram.f
  exact Ev.bind (toNodeS_ev l hl) (Ev.now _)
theorem szDiagram_ok (a : Int) (l : List S101) (c m : Int) (h : (l.length : Int) ≤ m) (hm : m ≤ 1048576) : laws_szDiagram.f a l c m = some (m - l.length) := by
  unfold laws_szDiagram.f; rw [szNodeS_ok l m h hm, Option.bind_some, if_neg (by omega)]
theorem szDiagram_big (a : Int) (l : List S101) (c m : Int) (h : m < (l.length : Int)) (hm : m ≤ 1048576) (h0 : 0 ≤ m) (hl : l.length ≤ maxLen) : laws_szDiagram.f a l c m = some (-1) := by
  unfold laws_szDiagram.f; rw [szNodeS_big l m h hm h0 hl, Option.bind_some, if_pos (by omega)]
theorem eqDiagram_self (a : Int) (l : List S75) (c : Int) (hl : l.length ≤ 1099511627776) : Ev (fun k => laws_eqDiagram.f k a l c a l c) true := by
  unfold laws_eqDiagram.f
  exact Ev.pos rfl (Ev.bind (eqNodeS_self l hl) (Ev.pos rfl (Ev.pos rfl (Ev.now _))))
theorem markDiagram_ev (a : Int) (l : List S75) (c m : Int) (hl : l.length ≤ 1099511627776) (hm : 0 ≤ m ∧ m ≤ 1099511627776) : Ev (fun k => laws_markDiagram.f k a l c m) (m + 3 * (l.length : Int), mkNode m l.length) := by
  unfold laws_markDiagram.f
  exact Ev.bind (markNodeS_ev l m hl hm) (Ev.now _)
def halves : List Bool → List Bool × List Bool
  | [] => ([], [])
  | x :: t => (x :: (halves t).2, (halves t).1)
theorem halves_len : ∀ t : List Bool, (halves t).1.length + (halves t).2.length = t.length ∧ (halves t).2.length ≤ (halves t).1.length ∧ (halves t).1.length ≤ (halves t).2.length + 1
  | [] => by simp [halves]
  | x :: t => by have := halves_len t; simp only [halves, List.length_cons]; omega
theorem l7Half_loop (t : List Bool) (hl : t.length ≤ 1048576) : ∀ (d i : Nat) (acc : List Bool), t.length ≤ i + d → acc.length ≤ i → i ≤ t.length + 1 → Ev (fun k => spec_l7Half.l0 k t acc (i : Int)) (acc ++ (halves (t.drop i)).1)
  | 0, i, acc, h, ha, hi => by
    rw [List.drop_eq_nil_of_le (by omega)]
    exact Ev.step (fun k => spec_l7Half.l0.eq_2 ..) (Ev.neg (by omega) (Ev.at_ (Ev.now _) (by simp [halves])))
  | d + 1, i, acc, h, ha, hi => by
    by_cases hlt : i < t.length
    · refine Ev.step (fun k => spec_l7Half.l0.eq_2 ..) (Ev.pos (by omega) (Ev.pos (by omega) (Ev.pos (by omega) ?_)))
      rw [rdOf_nat false t i hlt, show wrap64 ((i : Int) + 2) = ((i + 2 : Nat) : Int) by unfold wrap64; omega]
      refine Ev.at_ (l7Half_loop t hl d (i + 2) (acc ++ [t[i]]) (by omega) (by simp; omega) (by omega)) ?_
      rw [List.drop_eq_getElem_cons hlt]
      by_cases h2 : i + 1 < t.length
      · rw [List.drop_eq_getElem_cons h2]; simp [halves]
      · rw [List.drop_eq_nil_of_le (show t.length ≤ i + 1 by omega), List.drop_eq_nil_of_le (show t.length ≤ i + 2 by omega)]; simp [halves]
    · rw [List.drop_eq_nil_of_le (by omega)]
      exact Ev.step (fun k => spec_l7Half.l0.eq_2 ..) (Ev.neg (by omega) (Ev.at_ (Ev.now _) (by simp [halves])))
theorem l7Half0_ev (t : List Bool) (hl : t.length ≤ 1048576) : Ev (fun k => spec_l7Half.f k t 0) (halves t).1 := by
  have h := l7Half_loop t hl t.length 0 [] (by omega) (by simp) (by omega)
  rw [List.drop_zero, List.nil_append] at h
  exact h
theorem l7Half1_ev (t : List Bool) (hl : t.length ≤ 1048576) : Ev (fun k => spec_l7Half.f k t 1) (halves t).2 := by
  have h := l7Half_loop t hl t.length 1 [] (by omega) (by simp) (by omega)
  rw [List.nil_append] at h
  have e : (halves (t.drop 1)).1 = (halves t).2 := by cases t with
    | nil => rfl
    | cons x t => rfl
  rw [e] at h
  exact h
theorem splits_loop (t : List Bool) (hl : t.length ≤ 1048576) : ∀ (d i : Nat) (lo hi : List Bool), i + d = t.length → lo.length ≤ i → hi.length ≤ i → Ev (fun k => impl_Diagram_build.l0 k t lo hi (i : Int)) (if i % 2 = 0 then (lo ++ (halves (t.drop i)).1, hi ++ (halves (t.drop i)).2) else (lo ++ (halves (t.drop i)).2, hi ++ (halves (t.drop i)).1))
  | 0, i, lo, hi, h, h1, h2 => by
    rw [List.drop_eq_nil_of_le (by omega)]
    exact Ev.step (fun k => impl_Diagram_build.l0.eq_2 ..) (Ev.neg (by omega) (Ev.at_ (Ev.now _) (by split <;> simp [halves])))
  | d + 1, i, lo, hi, h, h1, h2 => by
    refine Ev.step (fun k => impl_Diagram_build.l0.eq_2 ..) (Ev.pos (by omega) (Ev.pos (by omega) ?_))
    rw [rdOf_nat false t i (by omega), w1 i (by omega), List.drop_eq_getElem_cons (show i < t.length by omega)]
    by_cases hp : i % 2 = 0
    · rw [if_pos hp]
      refine Ev.pos (by omega) (Ev.pos (by omega) (Ev.at_ (splits_loop t hl d (i + 1) (lo ++ [t[i]]) hi (by omega) (by simp; omega) (by omega)) ?_))
      rw [if_neg (by omega)]; simp [halves]
    · rw [if_neg hp]
      refine Ev.neg (by omega) (Ev.pos (by omega) (Ev.at_ (splits_loop t hl d (i + 1) lo (hi ++ [t[i]]) (by omega) (by omega) (by simp; omega)) ?_))
      rw [if_pos (by omega)]; simp [halves]
theorem splits_ev (t : List Bool) (hl : t.length ≤ 1048576) : Ev (fun k => impl_Diagram_build.l0 k t [] [] 0) (halves t) := by
  have h := splits_loop t hl t.length 0 [] [] (by omega) (by simp) (by simp)
  rw [List.drop_zero, if_pos rfl] at h
  exact h
theorem spec_l7SameTable_loop (a b : List Bool) (h : a.length = b.length) (hl : a.length ≤ 1048576) : ∀ (d i : Nat), i + d = a.length → Ev (fun k => spec_l7SameTable.l0 k a b (a.length : Int) (i : Int)) (decide (a.drop i = b.drop i))
  | 0, i, hi => by
    rw [List.drop_eq_nil_of_le (by omega), List.drop_eq_nil_of_le (by omega)]
    exact Ev.step (fun k => spec_l7SameTable.l0.eq_2 ..) (Ev.neg (by omega) (Ev.at_ (Ev.now _) (by simp)))
  | d + 1, i, hi => by
    refine Ev.step (fun k => spec_l7SameTable.l0.eq_2 ..) (Ev.pos (by omega) (Ev.pos (by omega) (Ev.pos (by omega) (Ev.pos (by omega) ?_))))
    rw [rdOf_nat false a i (by omega), rdOf_nat false b i (by omega), w1 i (by omega), List.drop_eq_getElem_cons (show i < a.length by omega), List.drop_eq_getElem_cons (show i < b.length by omega)]
    by_cases hx : a[i] = b[i]
    · refine Ev.neg (by simp [hx]) (Ev.at_ (spec_l7SameTable_loop a b h hl d (i + 1) (by omega)) ?_)
      simp only [hx, List.cons.injEq, true_and]
    · refine Ev.pos (by simpa using hx) (Ev.at_ (Ev.now _) ?_)
      simp only [List.cons.injEq, hx, false_and, decide_false]
theorem slices_Equal_bool_bool_loop (a b : List Bool) (h : a.length = b.length) (hl : a.length ≤ 1048576) : ∀ (d i : Nat), i + d = a.length → Ev (fun k => slices_Equal_bool_bool.l0 k a b (a.length : Int) (i : Int)) (decide (a.drop i = b.drop i))
  | 0, i, hi => by
    rw [List.drop_eq_nil_of_le (by omega), List.drop_eq_nil_of_le (by omega)]
    exact Ev.step (fun k => slices_Equal_bool_bool.l0.eq_2 ..) (Ev.neg (by omega) (Ev.at_ (Ev.now _) (by simp)))
  | d + 1, i, hi => by
    refine Ev.step (fun k => slices_Equal_bool_bool.l0.eq_2 ..) (Ev.pos (by omega) (Ev.pos (by omega) (Ev.pos (by omega) (Ev.pos (by omega) ?_))))
    rw [rdOf_nat false a i (by omega), rdOf_nat false b i (by omega), w1 i (by omega), List.drop_eq_getElem_cons (show i < a.length by omega), List.drop_eq_getElem_cons (show i < b.length by omega)]
    by_cases hx : a[i] = b[i]
    · refine Ev.neg (by simp [hx]) (Ev.at_ (slices_Equal_bool_bool_loop a b h hl d (i + 1) (by omega)) ?_)
      simp only [hx, List.cons.injEq, true_and]
    · refine Ev.pos (by simpa using hx) (Ev.at_ (Ev.now _) ?_)
      simp only [List.cons.injEq, hx, false_and, decide_false]
theorem sameTable_ev (a b : List Bool) (h : a.length = b.length) (hl : a.length ≤ 1048576) : Ev (fun k => spec_l7SameTable.f k a b) (decide (a = b)) := by
  have := spec_l7SameTable_loop a b h hl a.length 0 (by omega)
  rw [List.drop_zero, List.drop_zero] at this
  exact this
theorem equalB_ev (a b : List Bool) (hl : a.length ≤ 1048576) : Ev (fun k => slices_Equal_bool_bool.f k a b) (decide (a = b)) := by
  unfold slices_Equal_bool_bool.f
  by_cases h : a.length = b.length
  · have := slices_Equal_bool_bool_loop a b h hl a.length 0 (by omega)
    rw [List.drop_zero, List.drop_zero] at this
    exact Ev.pos (by omega) this
  · refine Ev.neg (by omega) (Ev.at_ (Ev.now _) ?_)
    exact (decide_eq_false (fun e => h (by rw [e]))).symm
def eqN (x n : S75) : Bool := x.f0 == n.f0 && (x.f1 == n.f1 && x.f2 == n.f2)
theorem eqN_iff (x n : S75) : eqN x n = true ↔ x = n := by
  cases x; cases n; simp [eqN]
theorem eqN_comm (x n : S75) : eqN x n = eqN n x := by
  rw [Bool.eq_iff_iff, eqN_iff, eqN_iff]; exact ⟨fun h => h.symm, fun h => h.symm⟩
def eqL : List S75 → List S75 → Bool
  | [], [] => true
  | x :: s, y :: t => eqN x y && eqL s t
  | _, _ => false
theorem eqL_iff : ∀ s t : List S75, eqL s t = true ↔ s = t
  | [], [] => by simp [eqL]
  | [], y :: t => by simp [eqL]
  | x :: s, [] => by simp [eqL]
  | x :: s, y :: t => by simp [eqL, eqN_iff, eqL_iff s t]
theorem eqL_len {s t : List S75} (h : s.length ≠ t.length) : eqL s t = false := by
  rw [Bool.eq_false_iff]; intro e; rw [eqL_iff] at e; exact h (by rw [e])
def findP : List S75 → S75 → Int → Int
  | [], _, _ => -1
  | x :: t, n, i => if eqN x n = true then i else findP t n (i + 1)
theorem findP_bd : ∀ (t : List S75) (n : S75) (i : Int), 0 ≤ i → findP t n i = -1 ∨ (i ≤ findP t n i ∧ findP t n i < i + t.length)
  | [], _, _, _ => .inl rfl
  | x :: t, n, i, h => by
    unfold findP
    split
    · right; simp; omega
    · rcases findP_bd t n (i + 1) (by omega) with h1 | h1
      · exact .inl h1
      · right; simp only [List.length_cons]; omega
def bld : Nat → Int → List Bool → List S75 → Int × List S75
  | 0, _, t, q => (if rdOf false t 0 = true then 1 else 0, q)
  | n + 1, v, t, q => if (halves t).1 = (halves t).2 then bld n (v + 1) (halves t).1 q else
      (if findP (bld n (v + 1) (halves t).2 (bld n (v + 1) (halves t).1 q).2).2 ⟨v, (bld n (v + 1) (halves t).1 q).1, (bld n (v + 1) (halves t).2 (bld n (v + 1) (halves t).1 q).2).1⟩ 0 < 0
       then (((bld n (v + 1) (halves t).2 (bld n (v + 1) (halves t).1 q).2).2.length : Int) + 2, (bld n (v + 1) (halves t).2 (bld n (v + 1) (halves t).1 q).2).2 ++ [⟨v, (bld n (v + 1) (halves t).1 q).1, (bld n (v + 1) (halves t).2 (bld n (v + 1) (halves t).1 q).2).1⟩])
       else (findP (bld n (v + 1) (halves t).2 (bld n (v + 1) (halves t).1 q).2).2 ⟨v, (bld n (v + 1) (halves t).1 q).1, (bld n (v + 1) (halves t).2 (bld n (v + 1) (halves t).1 q).2).1⟩ 0 + 2, (bld n (v + 1) (halves t).2 (bld n (v + 1) (halves t).1 q).2).2))
theorem bld_len : ∀ (n : Nat) (v : Int) (t : List Bool) (q : List S75), (bld n v t q).2.length + 1 ≤ q.length + 2 ^ n
  | 0, v, t, q => by simp [bld]
  | n + 1, v, t, q => by
    have h1 := bld_len n (v + 1) (halves t).1 q
    have h2 := bld_len n (v + 1) (halves t).2 (bld n (v + 1) (halves t).1 q).2
    have e : 2 ^ (n + 1) = 2 ^ n + 2 ^ n := by rw [Nat.pow_succ]; omega
    rw [e]
    generalize 2 ^ n = P at h1 h2 ⊢
    unfold bld
    split
    · omega
    · split
      · simp only [List.length_append, List.length_cons, List.length_nil]; omega
      · simp only; omega
theorem halves_pow (t : List Bool) (n : Nat) (h : t.length = 2 ^ (n + 1)) : (halves t).1.length = 2 ^ n ∧ (halves t).2.length = 2 ^ n := by
  have := halves_len t
  have e : 2 ^ (n + 1) = 2 ^ n + 2 ^ n := by rw [Nat.pow_succ]; omega
  rw [e] at h
  generalize 2 ^ n = P at h ⊢
  omega
theorem indexN_loop (q : List S75) (hl : q.length ≤ 1048576) (n : S75) : ∀ (d i : Nat), i + d = q.length → Ev (fun k => impl_Node_110.l0 k q (q.length : Int) (i : Int) n.f0 n.f1 n.f2) (findP (q.drop i) n (i : Int))
  | 0, i, h => by
    rw [List.drop_eq_nil_of_le (by omega)]
    exact Ev.step (fun k => impl_Node_110.l0.eq_2 ..) (Ev.neg (by omega) (Ev.now _))
  | d + 1, i, h => by
    refine Ev.step (fun k => impl_Node_110.l0.eq_2 ..) (Ev.pos (by omega) (Ev.pos (by omega) (Ev.pos (by omega) ?_)))
    rw [Nodeb_nat q i (by omega), w1 i (by omega), List.drop_eq_getElem_cons (show i < q.length by omega)]
    have e : (n.f0 == q[i].f0 && (n.f1 == q[i].f1 && n.f2 == q[i].f2)) = eqN q[i] n := eqN_comm n q[i]
    rw [e]
    unfold findP
    by_cases hx : eqN q[i] n = true
    · rw [if_pos hx]; exact Ev.pos hx (Ev.now _)
    · rw [if_neg hx]
      exact Ev.neg hx (indexN_loop q hl n d (i + 1) (by omega))
theorem indexN_ev (q : List S75) (hl : q.length ≤ 1048576) (v a b : Int) : Ev (fun k => impl_Node_110.f k q v a b) (findP q ⟨v, a, b⟩ 0) := by
  have h := indexN_loop q hl ⟨v, a, b⟩ q.length 0 (by omega)
  rw [List.drop_zero] at h
  exact h
theorem lp_loop (q : List S75) (hl : q.length ≤ 1048576) (n : S75) : ∀ (d i : Nat), i + d = q.length → Ev (fun k => spec_l7B_build.lp k q n.f0 n.f1 n.f2 (i : Int)) (if findP (q.drop i) n (i : Int) < 0 then -1 else findP (q.drop i) n (i : Int) + 2)
  | 0, i, h => by
    rw [List.drop_eq_nil_of_le (by omega)]
    exact Ev.step (fun k => spec_l7B_build.lp.eq_2 ..) (Ev.neg (by omega) (Ev.now _))
  | d + 1, i, h => by
    refine Ev.step (fun k => spec_l7B_build.lp.eq_2 ..) (Ev.pos (by omega) (Ev.pos (by omega) ?_))
    rw [Nodeb_nat q i (by omega), w1 i (by omega), List.drop_eq_getElem_cons (show i < q.length by omega)]
    unfold findP
    by_cases hx : eqN q[i] n = true
    · rw [if_pos hx, if_neg (by omega)]; exact Ev.pos hx (Ev.now _)
    · rw [if_neg hx]
      exact Ev.neg hx (lp_loop q hl n d (i + 1) (by omega))
theorem lp_ev (q : List S75) (hl : q.length ≤ 1048576) (v a b : Int) : Ev (fun k => spec_l7B_build.lp k q v a b 0) (if findP q ⟨v, a, b⟩ 0 < 0 then -1 else findP q ⟨v, a, b⟩ 0 + 2) := by
  have h := lp_loop q hl ⟨v, a, b⟩ q.length 0 (by omega)
  rw [List.drop_zero] at h
  exact h
theorem build_ev : ∀ (n : Nat) (v : Int) (t : List Bool) (q : List S75), t.length = 2 ^ n → 2 ^ n ≤ 1024 → 0 ≤ v → v + n ≤ 1000 → q.length + 2 ^ n ≤ 65536 → Ev (fun k => impl_Diagram_build.f k v t q) (bld n v t q)
  | 0, v, t, q, ht, hp, hv, hn, hq => by
    refine Ev.step (fun k => impl_Diagram_build.f.eq_2 ..) (Ev.pos (by rw [ht]; rfl) (Ev.now _))
  | n + 1, v, t, q, ht, hp, hv, hn, hq => by
    have hh := halves_pow t n ht
    have e : 2 ^ (n + 1) = 2 ^ n + 2 ^ n := by rw [Nat.pow_succ]; omega
    have hP : 0 < 2 ^ n := Nat.pow_pos (by decide)
    rw [e] at ht hp hq
    have b1 := bld_len n (v + 1) (halves t).1 q
    have b2 := bld_len n (v + 1) (halves t).2 (bld n (v + 1) (halves t).1 q).2
    have i1 := build_ev n (v + 1) (halves t).1 q hh.1 (by omega) (by omega) (by omega) (by omega)
    have i2 := build_ev n (v + 1) (halves t).2 (bld n (v + 1) (halves t).1 q).2 hh.2 (by omega) (by omega) (by omega) (by omega)
    generalize 2 ^ n = P at *
    refine Ev.step (fun k => impl_Diagram_build.f.eq_2 ..) (Ev.neg (by omega) (Ev.bind (splits_ev t (by omega)) (Ev.bind (equalB_ev _ _ (by omega)) ?_)))
    rw [wrap_id (v + 1) (by omega) (by omega)]
    unfold bld
    by_cases hx : (halves t).1 = (halves t).2
    · rw [if_pos hx]; exact Ev.pos (decide_eq_true hx) i1
    · rw [if_neg hx]
      refine Ev.neg (by simpa using hx) (Ev.bind i1 (Ev.bind i2 (Ev.bind (indexN_ev _ (by omega) _ _ _) ?_)))
      generalize bld n (v + 1) (halves t).1 q = x at *
      generalize bld n (v + 1) (halves t).2 x.2 = y at *
      rcases findP_bd y.2 ⟨v, x.1, y.1⟩ 0 (by omega) with h | h
      · have hc : findP y.2 ⟨v, x.1, y.1⟩ 0 < 0 := by omega
        simp only [if_pos hc]
        refine Ev.pos (by omega) (Ev.at_ (Ev.now _) ?_)
        rw [wrap_id _ (by omega) (by omega)]
      · have hc : ¬ findP y.2 ⟨v, x.1, y.1⟩ 0 < 0 := by omega
        simp only [if_neg hc]
        refine Ev.at_ (Ev.now _) ?_
        rw [wrap_id _ (by omega) (by omega)]
theorem buildS_ev : ∀ (n : Nat) (v : Int) (t : List Bool) (q : List S75), t.length = 2 ^ n → 2 ^ n ≤ 1024 → 0 ≤ v → v + n ≤ 1000 → q.length + 2 ^ n ≤ 65536 → Ev (fun k => spec_l7B_build.f k v t q) (bld n v t q)
  | 0, v, t, q, ht, hp, hv, hn, hq => by
    refine Ev.step (fun k => spec_l7B_build.f.eq_2 ..) (Ev.pos (by rw [ht]; rfl) (Ev.now _))
  | n + 1, v, t, q, ht, hp, hv, hn, hq => by
    have hh := halves_pow t n ht
    have e : 2 ^ (n + 1) = 2 ^ n + 2 ^ n := by rw [Nat.pow_succ]; omega
    have hP : 0 < 2 ^ n := Nat.pow_pos (by decide)
    rw [e] at ht hp hq
    have b1 := bld_len n (v + 1) (halves t).1 q
    have b2 := bld_len n (v + 1) (halves t).2 (bld n (v + 1) (halves t).1 q).2
    have i1 := buildS_ev n (v + 1) (halves t).1 q hh.1 (by omega) (by omega) (by omega) (by omega)
    have i2 := buildS_ev n (v + 1) (halves t).2 (bld n (v + 1) (halves t).1 q).2 hh.2 (by omega) (by omega) (by omega) (by omega)
    generalize 2 ^ n = P at *
    refine Ev.step (fun k => spec_l7B_build.f.eq_2 ..) (Ev.neg (by omega) (Ev.bind (l7Half0_ev t (by omega)) (Ev.bind (l7Half1_ev t (by omega)) (Ev.bind (sameTable_ev _ _ (by omega) (by omega)) ?_))))
    rw [wrap_id (v + 1) (by omega) (by omega)]
    unfold bld
    by_cases hx : (halves t).1 = (halves t).2
    · rw [if_pos hx]; exact Ev.pos (decide_eq_true hx) i1
    · rw [if_neg hx]
      refine Ev.neg (by simpa using hx) (Ev.bind i1 (Ev.bind i2 (Ev.pos (by omega) (Ev.bind (lp_ev _ (by omega) _ _ _) ?_))))
      generalize bld n (v + 1) (halves t).1 q = x at *
      generalize bld n (v + 1) (halves t).2 x.2 = y at *
      rcases findP_bd y.2 ⟨v, x.1, y.1⟩ 0 (by omega) with h | h
      · rw [if_pos (show findP y.2 ⟨v, x.1, y.1⟩ 0 < 0 by omega), if_pos (show findP y.2 ⟨v, x.1, y.1⟩ 0 < 0 by omega)]
        exact Ev.pos (by omega) (Ev.now _)
      · rw [if_neg (show ¬ findP y.2 ⟨v, x.1, y.1⟩ 0 < 0 by omega), if_neg (show ¬ findP y.2 ⟨v, x.1, y.1⟩ 0 < 0 by omega)]
        exact Ev.neg (by omega) (Ev.now _)
def evP (q : List S75) (β : Int → Bool) : Nat → Int → Bool
  | 0, p => p == 1
  | m + 1, p => if p > 1 then evP q β m (if β ((rd_T75 q (p - 2)).f0 - 1) = true then (rd_T75 q (p - 2)).f2 else (rd_T75 q (p - 2)).f1) else p == 1
def nodeB (a : Int) (q : List S75) (i : Nat) : Bool := In (rd_T75 q (i : Int)).f0 1 a && In (rd_T75 q (i : Int)).f1 0 ((i : Int) + 1) && In (rd_T75 q (i : Int)).f2 0 ((i : Int) + 1)
def nodesFrom (a : Int) (q : List S75) : Nat → Nat → Bool
  | 0, _ => true
  | d + 1, i => nodeB a q i && nodesFrom a q d (i + 1)
theorem nodesFrom_at (a : Int) (q : List S75) : ∀ (d i j : Nat), nodesFrom a q d i = true → i ≤ j → j < i + d → nodeB a q j = true
  | 0, i, j, h, h1, h2 => by omega
  | d + 1, i, j, h, h1, h2 => by
    unfold nodesFrom at h
    rw [Bool.and_eq_true] at h
    by_cases e : j = i
    · rw [e]; exact h.1
    · exact nodesFrom_at a q d (i + 1) j h.2 (by omega) (by omega)
def bitB (n : Nat) (j : Int) : Bool := bitM (n : Int) j.toNat
def tblP (v : Nat) (q : List S75) (c : Int) : List Bool := (List.range (2 ^ v)).map (fun k => evP q (bitB k) 64 c)
theorem tblP_len (v : Nat) (q : List S75) (c : Int) : (tblP v q c).length = 2 ^ v := by simp [tblP]
theorem l7Eval_loop (v : Nat) (q : List S75) (hq : q.length ≤ 64) (hv : v ≤ 6) (ok : ∀ i, i < q.length → nodeB (v : Int) q i = true) (a c : Int) (mo : List Bool) (hm : mo.length = v) (β : Int → Bool) (hβ : ∀ j : Nat, j < v → rdOf false mo (j : Int) = β (j : Int)) : ∀ (m : Nat) (p : Int), 0 ≤ p → p ≤ (m : Int) + 1 → p ≤ (q.length : Int) + 1 → Ev (fun k => spec_l7Eval.l0 k mo p a q c) (evP q β m p)
  | 0, p, h0, h1, h2 => Ev.step (fun k => spec_l7Eval.l0.eq_2 ..) (Ev.neg (by omega) (Ev.now _))
  | m + 1, p, h0, h1, h2 => by
    refine Ev.step (fun k => spec_l7Eval.l0.eq_2 ..) ?_
    unfold evP
    by_cases hp : p > 1
    · obtain ⟨i, hi⟩ := Int.eq_ofNat_of_zero_le (show 0 ≤ p - 2 by omega)
      have hg := ok i (by omega)
      unfold nodeB at hg
      simp only [Bool.and_eq_true, In_true] at hg
      rw [if_pos hp, wrap_id (p - 2) (by omega) (by omega), hi]
      obtain ⟨j, hj⟩ := Int.eq_ofNat_of_zero_le (show 0 ≤ (rd_T75 q (i : Int)).f0 - 1 by omega)
      rw [wrap_id _ (by omega) (by omega), hj]
      refine Ev.pos hp (Ev.pos (by omega) (Ev.pos (by omega) (Ev.pos (by omega) (Ev.pos (by omega) ?_))))
      rw [hβ j (by omega)]
      by_cases hb : β (j : Int) = true
      · rw [if_pos hb]; exact Ev.pos hb (l7Eval_loop v q hq hv ok a c mo hm β hβ m _ (by omega) (by omega) (by omega))
      · rw [if_neg hb]; exact Ev.neg hb (l7Eval_loop v q hq hv ok a c mo hm β hβ m _ (by omega) (by omega) (by omega))
    · rw [if_neg hp]; exact Ev.neg hp (Ev.now _)
theorem l7Eval_ev (v : Nat) (q : List S75) (hq : q.length ≤ 64) (hv : v ≤ 6) (ok : ∀ i, i < q.length → nodeB (v : Int) q i = true) (a c : Int) (mo : List Bool) (hm : mo.length = v) (β : Int → Bool) (hβ : ∀ j : Nat, j < v → rdOf false mo (j : Int) = β (j : Int)) (h0 : 0 ≤ c) (h2 : c ≤ (q.length : Int) + 1) : Ev (fun k => spec_l7Eval.f k a q c mo) (evP q β 64 c) :=
  l7Eval_loop v q hq hv ok a c mo hm β hβ 64 c h0 (by omega) h2
theorem value_loop (v : Nat) (q : List S75) (hq : q.length ≤ 64) (hv : v ≤ 6) (ok : ∀ i, i < q.length → nodeB (v : Int) q i = true) (a c : Int) (n : Nat) : ∀ (m : Nat) (p : Int), 0 ≤ p → p ≤ (m : Int) + 1 → p ≤ (q.length : Int) + 1 → Ev (fun k => impl_Diagram_value.l0 k (n : Int) p a q c) (evP q (bitB n) m p)
  | 0, p, h0, h1, h2 => Ev.step (fun k => impl_Diagram_value.l0.eq_2 ..) (Ev.neg (by omega) (Ev.now _))
  | m + 1, p, h0, h1, h2 => by
    refine Ev.step (fun k => impl_Diagram_value.l0.eq_2 ..) ?_
    unfold evP
    by_cases hp : p > 1
    · obtain ⟨i, hi⟩ := Int.eq_ofNat_of_zero_le (show 0 ≤ p - 2 by omega)
      have hg := ok i (by omega)
      unfold nodeB at hg
      simp only [Bool.and_eq_true, In_true] at hg
      rw [if_pos hp, wrap_id (p - 2) (by omega) (by omega), hi]
      obtain ⟨j, hj⟩ := Int.eq_ofNat_of_zero_le (show 0 ≤ (rd_T75 q (i : Int)).f0 - 1 by omega)
      rw [wrap_id _ (by omega) (by omega), hj]
      refine Ev.pos hp (Ev.pos (by omega) (Ev.pos (by omega) (Ev.pos (by omega) ?_)))
      have e : bitB n (j : Int) = (Go.bits .and .i64 (shr .i64 (n : Int) (j : Int)) 1 == 1) := by unfold bitB bitM; rw [Int.toNat_natCast]
      by_cases hb : bitB n (j : Int) = true
      · rw [if_pos hb]; rw [e] at hb
        exact Ev.pos (by simpa using hb) (value_loop v q hq hv ok a c n m _ (by omega) (by omega) (by omega))
      · rw [if_neg hb]; rw [e] at hb
        exact Ev.neg (by simpa using hb) (value_loop v q hq hv ok a c n m _ (by omega) (by omega) (by omega))
    · rw [if_neg hp]; exact Ev.neg hp (Ev.now _)
theorem value_ev (v : Nat) (q : List S75) (hq : q.length ≤ 64) (hv : v ≤ 6) (ok : ∀ i, i < q.length → nodeB (v : Int) q i = true) (a c : Int) (n : Nat) (h0 : 0 ≤ c) (h2 : c ≤ (q.length : Int) + 1) : Ev (fun k => impl_Diagram_value.f k a q c (n : Int)) (evP q (bitB n) 64 c) :=
  value_loop v q hq hv ok a c n 64 c h0 (by omega) h2
theorem pow6 (v : Nat) (hv : v ≤ 6) : 2 ^ v ≤ 64 := Nat.le_trans (Nat.pow_le_pow_right (by decide) hv) (by decide)
theorem table_loop (v : Nat) (q : List S75) (hq : q.length ≤ 64) (hv : v ≤ 6) (ok : ∀ i, i < q.length → nodeB (v : Int) q i = true) (c : Int) (h0 : 0 ≤ c) (h2 : c ≤ (q.length : Int) + 1) (N : Nat) (hN : N ≤ 64) : ∀ (d i : Nat) (acc : List Bool), i + d = N → acc.length ≤ i → Ev (fun k => impl_Diagram_table.l0 k acc (N : Int) (i : Int) (v : Int) q c) (acc ++ (List.range' i d).map (fun k => evP q (bitB k) 64 c))
  | 0, i, acc, h, ha => Ev.step (fun k => impl_Diagram_table.l0.eq_2 ..) (Ev.neg (by omega) (Ev.at_ (Ev.now _) (by simp)))
  | d + 1, i, acc, h, ha => by
    refine Ev.step (fun k => impl_Diagram_table.l0.eq_2 ..) (Ev.pos (by omega) (Ev.bind (value_ev v q hq hv ok (v : Int) c i h0 h2) (Ev.pos (by omega) ?_)))
    rw [w1 i (by omega)]
    refine Ev.at_ (table_loop v q hq hv ok c h0 h2 N hN d (i + 1) _ (by omega) (by simp; omega)) ?_
    simp [List.range'_succ]
theorem table_ev (v : Nat) (q : List S75) (hq : q.length ≤ 64) (hv : v ≤ 6) (ok : ∀ i, i < q.length → nodeB (v : Int) q i = true) (c : Int) (h0 : 0 ≤ c) (h2 : c ≤ (q.length : Int) + 1) : Ev (fun k => impl_Diagram_table.f k (v : Int) q c) (tblP v q c) := by
  unfold impl_Diagram_table.f
  refine Ev.pos (by omega) ?_
  rw [shl_one v (by omega)]
  refine Ev.at_ (table_loop v q hq hv ok c h0 h2 (2 ^ v) (pow6 v hv) (2 ^ v) 0 [] (by omega) (by simp)) ?_
  rw [List.nil_append, ← List.range_eq_range']; rfl
theorem rd_model (v n j : Nat) (h : j < v) : rdOf false (modelM v (n : Int)) (j : Int) = bitB n (j : Int) := by
  rw [rdOf_nat false _ j (by rw [modelM_len]; exact h)]
  simp [modelM, bitB]
theorem l7Table_loop1 (v : Nat) (q : List S75) (hq : q.length ≤ 64) (hv : v ≤ 6) (ok : ∀ i, i < q.length → nodeB (v : Int) q i = true) (c : Int) (h0 : 0 ≤ c) (h2 : c ≤ (q.length : Int) + 1) : ∀ (d i : Nat) (acc : List Bool), i + d = 2 ^ v → acc.length ≤ i → Ev (fun k => spec_l7Table.l1 k acc (i : Int) (v : Int) q c) (acc ++ (List.range' i d).map (fun k => evP q (bitB k) 64 c), true)
  | 0, i, acc, h, ha => by
    refine Ev.step (fun k => spec_l7Table.l1.eq_2 ..) ?_
    rw [u64_nat v (by omega), shl_one v (by omega)]
    exact Ev.pos (by omega) (Ev.neg (by omega) (Ev.at_ (Ev.now _) (by simp)))
  | d + 1, i, acc, h, ha => by
    have := pow6 v hv
    refine Ev.step (fun k => spec_l7Table.l1.eq_2 ..) ?_
    rw [u64_nat v (by omega), shl_one v (by omega)]
    refine Ev.pos (by omega) (Ev.pos (by omega) (Ev.bind (spec_l4Model_ev v (by omega) (i : Int)) (Ev.bind (l7Eval_ev v q hq hv ok (v : Int) c _ (modelM_len v _) (bitB i) (fun j hj => rd_model v i j hj) h0 h2) (Ev.pos (by omega) ?_))))
    rw [w1 i (by omega)]
    refine Ev.at_ (l7Table_loop1 v q hq hv ok c h0 h2 d (i + 1) _ (by omega) (by simp; omega)) ?_
    simp [List.range'_succ]
theorem l7Table_loop0 (v : Nat) (q : List S75) (hq : q.length ≤ 64) (hv : v ≤ 6) (c : Int) : ∀ (d i : Nat) (R : List Bool × Bool), i + d = q.length → (nodesFrom (v : Int) q d i = true → Ev (fun k => spec_l7Table.l1 k ([] : List Bool) 0 (v : Int) q c) R) → Ev (fun k => spec_l7Table.l0 k q (q.length : Int) (i : Int) (v : Int) q c) (if nodesFrom (v : Int) q d i = true then R else ([], false))
  | 0, i, R, h, hR => by
    rw [if_pos (show nodesFrom (v : Int) q 0 i = true from rfl)]
    exact Ev.step (fun k => spec_l7Table.l0.eq_2 ..) (Ev.neg (by omega) (hR rfl))
  | d + 1, i, R, h, hR => by
    refine Ev.step (fun k => spec_l7Table.l0.eq_2 ..) (Ev.pos (by omega) (Ev.pos (by omega) (Ev.pos (by omega) (Ev.bindE (spec_l1In_eq ..) ?_))))
    rw [w1 i (by omega), show ((i + 1 : Nat) : Int) = (i : Int) + 1 by omega]
    unfold nodesFrom at hR ⊢
    have ih := l7Table_loop0 v q hq hv c d (i + 1)
    by_cases g0 : In (rd_T75 q (i : Int)).f0 1 (v : Int) = true
    · refine Ev.pos g0 (Ev.bindE (spec_l1In_eq ..) ?_)
      by_cases g1 : In (rd_T75 q (i : Int)).f1 0 ((i : Int) + 1) = true
      · refine Ev.pos g1 (Ev.bindE (spec_l1In_eq ..) ?_)
        by_cases g2 : In (rd_T75 q (i : Int)).f2 0 ((i : Int) + 1) = true
        · have e : nodeB (v : Int) q i = true := by unfold nodeB; rw [g0, g1, g2]; rfl
          rw [e, Bool.true_and] at hR ⊢
          exact Ev.pos g2 (ih R (by omega) hR)
        · rw [if_neg (by unfold nodeB; rw [Bool.eq_false_iff.mpr g2]; simp)]; exact Ev.neg g2 (Ev.now _)
      · rw [if_neg (by unfold nodeB; rw [Bool.eq_false_iff.mpr g1]; simp)]; exact Ev.neg g1 (Ev.now _)
    · rw [if_neg (by unfold nodeB; rw [Bool.eq_false_iff.mpr g0]; simp)]; exact Ev.neg g0 (Ev.now _)
def okD (a : Int) (q : List S75) (c : Int) : Bool := In a 0 6 && decide (q.length ≤ 64) && In c 0 ((q.length : Int) + 1) && nodesFrom a q q.length 0
theorem okD_at {a : Int} {q : List S75} {c : Int} (h : okD a q c = true) : ∃ v : Nat, a = (v : Int) ∧ v ≤ 6 ∧ q.length ≤ 64 ∧ 0 ≤ c ∧ c ≤ (q.length : Int) + 1 ∧ ∀ i, i < q.length → nodeB a q i = true := by
  unfold okD at h
  simp only [Bool.and_eq_true, In_true, decide_eq_true_eq] at h
  obtain ⟨⟨⟨h1, h2⟩, h3⟩, h4⟩ := h
  obtain ⟨v, rfl⟩ := Int.eq_ofNat_of_zero_le h1.1
  exact ⟨v, rfl, by omega, h2, h3.1, h3.2, fun i hi => nodesFrom_at _ q q.length 0 i h4 (by omega) (by omega)⟩
theorem l7Table_ev (a : Int) (q : List S75) (c : Int) (hl : q.length ≤ 1048576) : Ev (fun k => spec_l7Table.f k a q c) (if okD a q c = true then (tblP a.toNat q c, true) else ([], false)) := by
  have bad : okD a q c = false → ∀ b, b = true → Ev (fun k => spec_l7Table.j0 k b a q c) (if okD a q c = true then (tblP a.toNat q c, true) else ([], false)) := fun ho b hb => by
    rw [ho, hb]; exact Ev.step (fun k => spec_l7Table.j0.eq_2 ..) (Ev.pos rfl (Ev.now _))
  unfold spec_l7Table.f
  refine Ev.bindE (spec_l1In_eq ..) ?_
  by_cases h1 : In a 0 6 = true
  · refine Ev.pos h1 ?_
    by_cases h2 : q.length ≤ 64
    · refine Ev.neg (by omega) (Ev.bindE (spec_l1In_eq ..) ?_)
      rw [wrap_id _ (by omega) (by omega)]
      by_cases h3 : In c 0 ((q.length : Int) + 1) = true
      · rw [h3]
        obtain ⟨v, rfl⟩ := Int.eq_ofNat_of_zero_le (In_true.1 h1).1
        have hv : v ≤ 6 := by have := In_true.1 h1; omega
        have hc := In_true.1 h3
        have e : okD (v : Int) q c = nodesFrom (v : Int) q q.length 0 := by unfold okD; rw [h1, h3, decide_eq_true h2]; rfl
        rw [e]
        refine Ev.step (fun k => spec_l7Table.j0.eq_2 ..) (Ev.neg (by simp) ?_)
        refine l7Table_loop0 v q h2 hv c q.length 0 (tblP v q c, true) (by omega) (fun hn => ?_)
        refine Ev.at_ (l7Table_loop1 v q h2 hv (fun i hi => nodesFrom_at _ q q.length 0 i hn (by omega) (by omega)) c hc.1 hc.2 (2 ^ v) 0 [] (by omega) (by simp)) ?_
        rw [List.nil_append, ← List.range_eq_range']; rfl
      · exact bad (by unfold okD; rw [Bool.eq_false_iff.mpr h3]; simp) _ (by rw [Bool.eq_false_iff.mpr h3]; rfl)
    · exact Ev.pos (by omega) (bad (by unfold okD; rw [decide_eq_false h2]; simp) _ rfl)
  · exact Ev.neg h1 (bad (by unfold okD; rw [Bool.eq_false_iff.mpr h1]; simp) _ rfl)
def goodD (a : Int) (q : List S75) (c : Int) : Bool := okD a q c && ((bld a.toNat 1 (tblP a.toNat q c) []).1 == c && eqL (bld a.toNat 1 (tblP a.toNat q c) []).2 q)
theorem goodD_ok {a : Int} {q : List S75} {c : Int} (h : goodD a q c = true) : okD a q c = true := by
  unfold goodD at h; rw [Bool.and_eq_true] at h; exact h.1
theorem l7Of_ev (v : Nat) (hv : v ≤ 6) (t : List Bool) (ht : t.length = 2 ^ v) : Ev (fun k => spec_l7Of.f k (v : Int) t) ((v : Int), (bld v 1 t []).2, (bld v 1 t []).1) := by
  have h6 := pow6 v hv
  have hb := bld_len v 1 t []
  have hb2 : (bld v 1 t []).2.length < 1099511627776 := by rw [List.length_nil] at hb; omega
  unfold spec_l7Of.f
  exact Ev.bind (buildS_ev v 1 t [] ht (by omega) (by omega) (by omega) (by simp; omega)) (Ev.pos hb2 (Ev.now _))
theorem diagram_ev (v : Nat) (hv : v ≤ 6) (t : List Bool) (ht : t.length = 2 ^ v) : Ev (fun k => impl_diagram.f k (v : Int) t) ((v : Int), (bld v 1 t []).2, (bld v 1 t []).1) := by
  have h6 := pow6 v hv
  unfold impl_diagram.f
  exact Ev.bind (build_ev v 1 t [] ht (by omega) (by omega) (by omega) (by simp; omega)) (Ev.now _)
theorem equalN_loop (x q : List S75) (h : x.length = q.length) (hl : x.length ≤ 1048576) : ∀ (d i : Nat), i + d = x.length → Ev (fun k => impl_Node_85.l0 k x q (x.length : Int) (i : Int)) (eqL (x.drop i) (q.drop i))
  | 0, i, hi => by
    rw [List.drop_eq_nil_of_le (by omega), List.drop_eq_nil_of_le (by omega)]
    exact Ev.step (fun k => impl_Node_85.l0.eq_2 ..) (Ev.neg (by omega) (Ev.now _))
  | d + 1, i, hi => by
    refine Ev.step (fun k => impl_Node_85.l0.eq_2 ..) (Ev.pos (by omega) (Ev.pos (by omega) (Ev.pos (by omega) (Ev.pos (by omega) ?_))))
    rw [Nodeb_nat x i (by omega), Nodeb_nat q i (by omega), w1 i (by omega), List.drop_eq_getElem_cons (show i < x.length by omega), List.drop_eq_getElem_cons (show i < q.length by omega)]
    have e : (!(x[i].f0 == q[i].f0) || (!(x[i].f1 == q[i].f1) || !(x[i].f2 == q[i].f2))) = !(eqN x[i] q[i]) := by unfold eqN; simp only [Bool.not_and]
    rw [e]
    unfold eqL
    by_cases hx : eqN x[i] q[i] = true
    · rw [hx, Bool.true_and]; exact Ev.neg (by simp) (equalN_loop x q h hl d (i + 1) (by omega))
    · rw [Bool.eq_false_iff.mpr hx, Bool.false_and]; exact Ev.pos (by simp) (Ev.now _)
theorem equalN_ev (x q : List S75) (hl : x.length ≤ 1048576) : Ev (fun k => impl_Node_85.f k x q) (eqL x q) := by
  unfold impl_Node_85.f
  by_cases h : x.length = q.length
  · have := equalN_loop x q h hl x.length 0 (by omega)
    rw [List.drop_zero, List.drop_zero] at this
    exact Ev.pos (by omega) this
  · exact Ev.neg (by omega) (Ev.at_ (Ev.now _) (eqL_len h).symm)
theorem goodI_loop (v : Nat) (q : List S75) (hq : q.length ≤ 64) (hv : v ≤ 6) (c : Int) : ∀ (d i : Nat) (R : Bool), i + d = q.length → (nodesFrom (v : Int) q d i = true → Ev (fun k => (impl_Diagram_table.f k (v : Int) q c).bind fun t196 => ((impl_diagram.f k (v : Int) t196).bind fun bt199 => (if bt199.2.2 = c then ((impl_Node_85.f k bt199.2.1 q).bind fun t205 => (some t205)) else (some false)))) R) → Ev (fun k => impl_GoodDiagram.l0 k q (q.length : Int) (i : Int) (v : Int) q c) (nodesFrom (v : Int) q d i && R)
  | 0, i, R, h, hR => Ev.step (fun k => impl_GoodDiagram.l0.eq_2 ..) (Ev.neg (by omega) (hR rfl))
  | d + 1, i, R, h, hR => by
    refine Ev.step (fun k => impl_GoodDiagram.l0.eq_2 ..) (Ev.pos (by omega) (Ev.pos (by omega) (Ev.pos (by omega) (Ev.bindE (impl_in_eq ..) ?_))))
    rw [w1 i (by omega), show ((i + 1 : Nat) : Int) = (i : Int) + 1 by omega]
    unfold nodesFrom at hR ⊢
    have ih := goodI_loop v q hq hv c d (i + 1)
    by_cases g0 : In (rd_T75 q (i : Int)).f0 1 (v : Int) = true
    · refine Ev.pos g0 (Ev.bindE (impl_in_eq ..) ?_)
      by_cases g1 : In (rd_T75 q (i : Int)).f1 0 ((i : Int) + 1) = true
      · refine Ev.pos g1 (Ev.bindE (impl_in_eq ..) ?_)
        by_cases g2 : In (rd_T75 q (i : Int)).f2 0 ((i : Int) + 1) = true
        · have e : nodeB (v : Int) q i = true := by unfold nodeB; rw [g0, g1, g2]; rfl
          rw [e, Bool.true_and] at hR ⊢
          exact Ev.pos g2 (ih R (by omega) hR)
        · refine Ev.neg g2 (Ev.at_ (Ev.now _) ?_); unfold nodeB; rw [Bool.eq_false_iff.mpr g2]; simp
      · refine Ev.neg g1 (Ev.at_ (Ev.now _) ?_); unfold nodeB; rw [Bool.eq_false_iff.mpr g1]; simp
    · refine Ev.neg g0 (Ev.at_ (Ev.now _) ?_); unfold nodeB; rw [Bool.eq_false_iff.mpr g0]; simp
theorem goodI_ev (a : Int) (q : List S75) (c : Int) (hl : q.length ≤ 1048576) : Ev (fun k => impl_GoodDiagram.f k a q c) (goodD a q c) := by
  have bad : okD a q c = false → ∀ b, b = true → Ev (fun k => impl_GoodDiagram.j0 k b a q c) (goodD a q c) := fun ho b hb => by
    rw [hb]; exact Ev.step (fun k => impl_GoodDiagram.j0.eq_2 ..) (Ev.pos rfl (Ev.at_ (Ev.now _) (by unfold goodD; rw [ho]; rfl)))
  unfold impl_GoodDiagram.f
  refine Ev.bindE (impl_in_eq ..) ?_
  by_cases h1 : In a 0 6 = true
  · refine Ev.pos h1 ?_
    by_cases h2 : q.length ≤ 64
    · refine Ev.neg (by omega) (Ev.bindE (impl_in_eq ..) ?_)
      rw [wrap_id _ (by omega) (by omega)]
      by_cases h3 : In c 0 ((q.length : Int) + 1) = true
      · rw [h3]
        obtain ⟨v, rfl⟩ := Int.eq_ofNat_of_zero_le (In_true.1 h1).1
        have hv : v ≤ 6 := by have := In_true.1 h1; omega
        have hc := In_true.1 h3
        have h6 := pow6 v hv
        have e : okD (v : Int) q c = nodesFrom (v : Int) q q.length 0 := by unfold okD; rw [h1, h3, decide_eq_true h2]; rfl
        refine Ev.step (fun k => impl_GoodDiagram.j0.eq_2 ..) (Ev.neg (by simp) (Ev.at_ (goodI_loop v q h2 hv c q.length 0 ((bld v 1 (tblP v q c) []).1 == c && eqL (bld v 1 (tblP v q c) []).2 q) (by omega) (fun hn => ?_)) (by unfold goodD; rw [e]; rfl)))
        refine Ev.bind (table_ev v q h2 hv (fun i hi => nodesFrom_at _ q q.length 0 i hn (by omega) (by omega)) c hc.1 hc.2) (Ev.bind (diagram_ev v hv _ (tblP_len v q c)) ?_)
        have hb := bld_len v 1 (tblP v q c) []
        have hb2 : (bld v 1 (tblP v q c) []).2.length ≤ 1048576 := by rw [List.length_nil] at hb; omega
        by_cases hr : (bld v 1 (tblP v q c) []).1 = c
        · refine Ev.pos hr (Ev.bind (equalN_ev _ q hb2) (Ev.at_ (Ev.now _) ?_)); rw [beq_iff_eq.mpr hr]; rfl
        · refine Ev.neg hr (Ev.at_ (Ev.now _) ?_); rw [beq_eq_false_iff_ne.mpr hr]; rfl
      · exact bad (by unfold okD; rw [Bool.eq_false_iff.mpr h3]; simp) _ (by rw [Bool.eq_false_iff.mpr h3]; rfl)
    · exact Ev.pos (by omega) (bad (by unfold okD; rw [decide_eq_false h2]; simp) _ rfl)
  · exact Ev.neg h1 (bad (by unfold okD; rw [Bool.eq_false_iff.mpr h1]; simp) _ rfl)
theorem goodS_loop (x q : List S75) (h : x.length = q.length) (hl : x.length ≤ 1048576) (a c : Int) : ∀ (d i : Nat), i + d = x.length → Ev (fun k => spec_GoodDiagram.l0 k x (x.length : Int) (i : Int) a q c) (eqL (x.drop i) (q.drop i))
  | 0, i, hi => by
    rw [List.drop_eq_nil_of_le (by omega), List.drop_eq_nil_of_le (by omega)]
    exact Ev.step (fun k => spec_GoodDiagram.l0.eq_2 ..) (Ev.neg (by omega) (Ev.now _))
  | d + 1, i, hi => by
    refine Ev.step (fun k => spec_GoodDiagram.l0.eq_2 ..) (Ev.pos (by omega) (Ev.pos (by omega) (Ev.pos (by omega) (Ev.pos (by omega) ?_))))
    rw [Nodeb_nat x i (by omega), Nodeb_nat q i (by omega), w1 i (by omega), List.drop_eq_getElem_cons (show i < x.length by omega), List.drop_eq_getElem_cons (show i < q.length by omega)]
    have e : (!(q[i].f0 == x[i].f0) || (!(q[i].f1 == x[i].f1) || !(q[i].f2 == x[i].f2))) = !(eqN x[i] q[i]) := by rw [eqN_comm]; unfold eqN; simp only [Bool.not_and]
    rw [e]
    unfold eqL
    by_cases hx : eqN x[i] q[i] = true
    · rw [hx, Bool.true_and]; exact Ev.neg (by simp) (goodS_loop x q h hl a c d (i + 1) (by omega))
    · rw [Bool.eq_false_iff.mpr hx, Bool.false_and]; exact Ev.pos (by simp) (Ev.now _)
theorem goodS_ev (a : Int) (q : List S75) (c : Int) (hl : q.length ≤ 1048576) : Ev (fun k => spec_GoodDiagram.f k a q c) (goodD a q c) := by
  unfold spec_GoodDiagram.f
  refine Ev.bind (l7Table_ev a q c hl) ?_
  by_cases ho : okD a q c = true
  · rw [if_pos ho]
    obtain ⟨v, rfl, hv, hq, _, _, _⟩ := okD_at ho
    have h6 := pow6 v hv
    have hb := bld_len v 1 (tblP v q c) []
    have hb2 : (bld v 1 (tblP v q c) []).2.length ≤ 1048576 := by rw [List.length_nil] at hb; omega
    have bad : ((bld v 1 (tblP v q c) []).1 == c && eqL (bld v 1 (tblP v q c) []).2 q) = false → ∀ b, b = true → ∀ z1 z2 z3, Ev (fun k => spec_GoodDiagram.j0 k b (v : Int) q c z1 z2 z3) (goodD (v : Int) q c) := fun hg b hb z1 z2 z3 => by
      rw [hb]; refine Ev.step (fun k => spec_GoodDiagram.j0.eq_2 ..) (Ev.pos rfl (Ev.at_ (Ev.now _) ?_))
      unfold goodD; rw [ho, Bool.true_and]; exact hg.symm
    refine Ev.pos rfl (Ev.bind (l7Of_ev v hv (tblP v q c) (tblP_len v q c)) ?_)
    by_cases hr : (bld v 1 (tblP v q c) []).1 = c
    · refine Ev.pos hr ?_
      by_cases hn : (bld v 1 (tblP v q c) []).2.length = q.length
      · simp only
        rw [show (((bld v 1 (tblP v q c) []).2.length : Int) != (q.length : Int)) = false by simp [hn]]
        refine Ev.step (fun k => spec_GoodDiagram.j0.eq_2 ..) (Ev.neg (by simp) ?_)
        have := goodS_loop (bld v 1 (tblP v q c) []).2 q hn hb2 (v : Int) c (bld v 1 (tblP v q c) []).2.length 0 (by omega)
        rw [List.drop_zero, List.drop_zero] at this
        refine Ev.at_ this ?_
        unfold goodD; rw [ho, Bool.true_and, Int.toNat_natCast, beq_iff_eq.mpr hr, Bool.true_and]
      · exact bad (by rw [eqL_len hn, Bool.and_false]) _ (by simp; omega) _ _ _
    · exact Ev.neg hr (bad (by rw [beq_eq_false_iff_ne.mpr hr]; rfl) _ rfl _ _ _)
  · rw [if_neg ho]
    refine Ev.neg (by simp) (Ev.at_ (Ev.now _) ?_)
    unfold goodD; rw [Bool.eq_false_iff.mpr ho]; rfl
theorem tableS_ev (a : Int) (q : List S75) (c : Int) (hl : q.length ≤ 1048576) : Ev (fun k => spec_TableOf.f k a q c) (if goodD a q c = true then (tblP a.toNat q c, true) else ([], false)) := by
  unfold spec_TableOf.f
  refine Ev.bind (goodS_ev a q c hl) ?_
  by_cases hg : goodD a q c = true
  · rw [if_pos hg]
    refine Ev.pos hg (Ev.bind (l7Table_ev a q c hl) ?_)
    rw [if_pos (goodD_ok hg)]; exact Ev.now _
  · rw [if_neg hg]; exact Ev.neg hg (Ev.now _)
theorem heldDiagram_ev (a c : Int) (n : Nat) (m : Int) (hl : n ≤ 1048576) (hm : 0 ≤ m ∧ m ≤ 1048576) : Ev (fun k => laws_heldDiagram.f k a (mkNode m n) c m) (m + 3 * (n : Int)) := by
  unfold laws_heldDiagram.f
  exact Ev.bind (heldNodeS_ev n m (by omega) (by omega)) (Ev.neg (by omega) (Ev.now _))
theorem evAll {α : Type} {P : Nat → Nat → Option α} {β : Nat → α} : ∀ N : Nat, (∀ i, i < N → Ev (fun k => P k i) (β i)) → ∃ K, ∀ k, K ≤ k → ∀ i, i < N → P k i = some (β i)
  | 0, _ => ⟨0, fun _ _ i hi => absurd hi (Nat.not_lt_zero i)⟩
  | N + 1, h => by
    obtain ⟨K, hK⟩ := evAll N (fun i hi => h i (by omega))
    obtain ⟨K2, hK2⟩ := h N (by omega)
    refine ⟨max K K2, fun k hk i hi => ?_⟩
    by_cases e : i = N
    · rw [e]; exact hK2 k (by omega)
    · exact hK k (by omega) i (by omega)
theorem impl_BothOf_ml (p : Int → Option Bool) (N : Nat) (hN : N ≤ 1048576) (β : Nat → Bool) (hp : ∀ i : Nat, i < N → p (i : Int) = some (β i)) : ∀ (d i : Nat) (out : List Bool) (k : Nat), i + d = N → d < k → out.length ≤ i → impl_BothOf.ml k p (N : Int) out (i : Int) = some (out ++ (List.range' i d).map β)
  | 0, i, out, k, h, hk, ho => by
    obtain ⟨k, rfl⟩ : ∃ m, k = m + 1 := ⟨k - 1, by omega⟩
    unfold impl_BothOf.ml; rw [if_neg (by omega)]; simp
  | d + 1, i, out, k, h, hk, ho => by
    obtain ⟨k, rfl⟩ : ∃ m, k = m + 1 := ⟨k - 1, by omega⟩
    unfold impl_BothOf.ml
    rw [if_pos (by omega), hp i (by omega), Option.bind_some, if_pos (by omega), w1 i (by omega), impl_BothOf_ml p N hN β hp d (i + 1) (out ++ [β i]) k (by omega) (by omega) (by simp; omega)]
    simp [List.range'_succ]
theorem impl_BothOf_mapf (v : Nat) (hv : v ≤ 6) (P : Nat → Int → Option Bool) (β : Nat → Bool) (hP : ∀ i : Nat, i < 2 ^ v → Ev (fun k => P k (i : Int)) (β i)) : Ev (fun k => impl_BothOf.mapf k (P k) (v : Int)) ((v : Int), (bld v 1 ((List.range (2 ^ v)).map β) []).2, (bld v 1 ((List.range (2 ^ v)).map β) []).1) := by
  have h6 := pow6 v hv
  unfold impl_BothOf.mapf
  refine Ev.pos (by omega) ?_
  rw [shl_one v (by omega)]
  obtain ⟨K, hK⟩ := evAll (2 ^ v) hP
  have hml : Ev (fun k => impl_BothOf.ml k (P k) ((2 ^ v : Nat) : Int) [] 0) ((List.range (2 ^ v)).map β) :=
    ⟨max K (2 ^ v + 1), fun k hk => by
      have h := impl_BothOf_ml (P k) (2 ^ v) (by omega) β (hK k (by omega)) (2 ^ v) 0 [] k (by omega) (by omega) (by simp)
      rw [List.nil_append, ← List.range_eq_range'] at h
      exact h⟩
  exact Ev.bind hml (diagram_ev v hv _ (by simp))
theorem bothS_loop (v : Nat) (hv : v ≤ 6) (q : List S75) (c : Int) (y T : List Bool) (hy : y.length = 2 ^ v) : ∀ (d i : Nat) (acc : List Bool), acc.length = 2 ^ v → i + d = 2 ^ v → acc.take i ++ List.zipWith (fun a b => a && b) (acc.drop i) (y.drop i) = T → Ev (fun k => spec_BothOf.l0 k acc y ((2 ^ v : Nat) : Int) (i : Int) (v : Int) q c) ((v : Int), (bld v 1 T []).2, (bld v 1 T []).1, true)
  | 0, i, acc, ha, h, hT => by
    have e : acc = T := by rw [List.drop_eq_nil_of_le (by omega), List.take_of_length_le (by omega)] at hT; simpa using hT
    rw [← e]
    exact Ev.step (fun k => spec_BothOf.l0.eq_2 ..) (Ev.neg (by omega) (Ev.bind (l7Of_ev v hv acc ha) (Ev.now _)))
  | d + 1, i, acc, ha, h, hT => by
    have h6 := pow6 v hv
    have hi : i < acc.length := by omega
    have hi2 : i < y.length := by omega
    rw [List.drop_eq_getElem_cons hi, List.drop_eq_getElem_cons hi2, List.zipWith_cons_cons] at hT
    have ih := bothS_loop v hv q c y T hy d (i + 1) (acc.set i (acc[i] && y[i])) (by simpa using ha) (by omega) (by
      rw [set_take _ _ _ hi, List.drop_set_of_lt (by omega), List.append_assoc]; exact hT)
    refine Ev.step (fun k => spec_BothOf.l0.eq_2 ..) (Ev.pos (by omega) (Ev.pos (by omega) (Ev.pos (by omega) ?_)))
    rw [rdOf_nat false acc i hi, rdOf_nat false y i hi2, w1 i (by omega), Int.toNat_natCast]
    by_cases hb : acc[i] = true
    · rw [hb, Bool.true_and] at ih
      exact Ev.pos hb (Ev.pos (by omega) ih)
    · rw [Bool.eq_false_iff.mpr hb, Bool.false_and] at ih
      exact Ev.neg hb ih
theorem zip_tbl (v : Nat) (q q' : List S75) (c c' : Int) : List.zipWith (fun a b => a && b) (tblP v q c) (tblP v q' c') = (List.range (2 ^ v)).map (fun i => evP q (bitB i) 64 c && evP q' (bitB i) 64 c') := by
  unfold tblP
  rw [List.zipWith_map, List.zipWith_self]
theorem pow_inj {a b : Nat} (h : 2 ^ a = 2 ^ b) : a = b := by
  rcases Nat.lt_trichotomy a b with h1 | h1 | h1
  · have := Nat.pow_lt_pow_right (a := 2) (by decide) h1; omega
  · exact h1
  · have := Nat.pow_lt_pow_right (a := 2) (by decide) h1; omega
theorem bothI_mapf (v : Nat) (hv : v ≤ 6) (q q' : List S75) (c c' : Int) (hq : q.length ≤ 64) (h1 : 0 ≤ c) (h2 : c ≤ (q.length : Int) + 1) (h3 : ∀ i, i < q.length → nodeB (v : Int) q i = true) (hq' : q'.length ≤ 64) (h1' : 0 ≤ c') (h2' : c' ≤ (q'.length : Int) + 1) (h3' : ∀ i, i < q'.length → nodeB (v : Int) q' i = true) : Ev (fun k => impl_BothOf.mapf k (impl_BothOf.pr k (v : Int) q c (v : Int) q' c') (v : Int)) ((v : Int), (bld v 1 (List.zipWith (fun a b => a && b) (tblP v q c) (tblP v q' c')) []).2, (bld v 1 (List.zipWith (fun a b => a && b) (tblP v q c) (tblP v q' c')) []).1) := by
  rw [zip_tbl]
  exact impl_BothOf_mapf v hv (fun k => impl_BothOf.pr k (v : Int) q c (v : Int) q' c') (fun i => evP q (bitB i) 64 c && evP q' (bitB i) 64 c') (fun i _ => by
      unfold impl_BothOf.pr
      refine Ev.bind (value_ev v q hq hv h3 (v : Int) c i h1 h2) ?_
      by_cases hb : evP q (bitB i) 64 c = true
      · refine Ev.pos hb (Ev.at_ (value_ev v q' hq' hv h3' (v : Int) c' i h1' h2') ?_); simp only [hb, Bool.true_and]
      · refine Ev.neg hb (Ev.at_ (Ev.now _) ?_); simp only [Bool.eq_false_iff.mpr hb, Bool.false_and])
theorem bothOf_both (a : Int) (q : List S75) (c b : Int) (p : List S75) (e : Int) (hl : q.length ≤ 1048576) (hl' : p.length ≤ 1048576) : Both (fun r => r.2.1.length ≤ 64) (fun k => spec_BothOf.f k a q c b p e) (fun k => impl_BothOf.f k a q c b p e) := by
  unfold spec_BothOf.f impl_BothOf.f
  have bad : ∀ x y z, z = true → Both (fun r : Int × List S75 × Int × Bool => r.2.1.length ≤ 64) (fun k => spec_BothOf.j0 k x y z a q c) (fun _ => some (0, [], 0, false)) := fun x y z hz => by
    rw [hz]; exact Both.stepL (fun k => spec_BothOf.j0.eq_2 ..) (Both.posL rfl (Both.now _ (by simp)))
  refine Both.bindL (tableS_ev a q c hl) (Both.bindL (tableS_ev b p e hl') (Both.bindR (goodI_ev a q c hl) ?_))
  by_cases hg : goodD a q c = true
  · rw [if_pos hg]
    refine Both.posL rfl (Both.posR hg (Both.bindR (goodI_ev b p e hl') ?_))
    by_cases hg' : goodD b p e = true
    · rw [if_pos hg']
      refine Both.posL rfl (Both.posR hg' ?_)
      obtain ⟨v, rfl, hv, hq, h1, h2, h3⟩ := okD_at (goodD_ok hg)
      obtain ⟨v', rfl, hv', hq', h1', h2', h3'⟩ := okD_at (goodD_ok hg')
      have h6 := pow6 v hv
      by_cases hvv : v = v'
      · subst hvv
        refine Both.posR rfl ?_
        have hT : (List.zipWith (fun a b => a && b) (tblP v q c) (tblP v p e)).length = 2 ^ v := by rw [List.length_zipWith, tblP_len, tblP_len]; omega
        have hb := bld_len v 1 (List.zipWith (fun a b => a && b) (tblP v q c) (tblP v p e)) []
        rw [List.length_nil] at hb
        have hm := bothI_mapf v hv q p c e hq h1 h2 h3 hq' h1' h2' h3'
        have hs := bothS_loop v hv q c (tblP v p e) (List.zipWith (fun a b => a && b) (tblP v q c) (tblP v p e)) (tblP_len v p e) (2 ^ v) 0 (tblP v q c) (tblP_len v q c) (by omega) (by rw [List.take_zero, List.drop_zero, List.drop_zero]; rfl)
        refine Both.bindR hm ⟨_, ?_, Ev.now _, by simp only; omega⟩
        simp only [Int.toNat_natCast, tblP_len]
        rw [show (((2 ^ v : Nat) : Int) != ((2 ^ v : Nat) : Int)) = false by simp]
        exact Ev.step (fun k => spec_BothOf.j0.eq_2 ..) (Ev.neg (by simp) (by rw [tblP_len]; exact hs))
      · refine Both.negR (by omega) (bad _ _ _ ?_)
        simp only [Int.toNat_natCast, tblP_len]
        rw [bne_iff_ne]
        intro hx
        exact hvv (pow_inj (by omega))
    · rw [if_neg hg']
      exact Both.negL (by simp) (Both.negR hg' (bad _ _ _ rfl))
  · rw [if_neg hg]
    exact Both.negL (by simp) (Both.negR hg (bad _ _ _ rfl))
theorem FnExactBothOf : laws_FnExactBothOf.Pure := by
  intro a l c b p e _ hl _ _ hl' _
  refine Ev.rounds ?_
  unfold laws_FnExactBothOf.f
  by_cases hb : l.length ≤ 1048576
  · by_cases hb2 : (p.length : Int) ≤ 1048576 - (l.length : Int)
    · have hb' : (l.map cvNode).length ≤ 1048576 := by simpa using hb
      have hb2' : (p.map cvNode).length ≤ 1048576 := by simp; omega
      obtain ⟨⟨r1, r2, r3, ok⟩, h1, h2, hv⟩ := bothOf_both a (l.map cvNode) c b (p.map cvNode) e hb' hb2'
      simp only at hv
      have ht := toDiagram_ev a l c hb
      have ht2 := toDiagram_ev b p e (by omega)
      have hg := eqDiagram_self a (l.map cvNode) c (by omega)
      have hg2 := eqDiagram_self b (p.map cvNode) e (by omega)
      have hr := eqDiagram_self r1 r2 r3 (by omega)
      have hm1 := markDiagram_ev a (l.map cvNode) c 1 (by omega) (by omega)
      have hm1' := markDiagram_ev b (p.map cvNode) e (1 + 3 * ((l.map cvNode).length : Int)) (by omega) (by omega)
      have hm2 := markDiagram_ev r1 r2 r3 1 (by omega) (by omega)
      have hh := heldDiagram_ev r1 r3 r2.length 1 (by omega) (by omega)
      refine Ev.bindE (szDiagram_ok a l c _ (by omega) (by omega)) <| Ev.neg (by omega) <| Ev.bindE (szDiagram_ok b p e _ hb2 (by omega)) <| Ev.neg (by omega) <| Ev.bind ht <| Ev.bind ht2 <| Ev.bind h1 <| Ev.bind ht <| Ev.bind ht2 <| Ev.bind h2 <| Ev.bind hr <| Ev.pos rfl ?_
      refine Ev.step (fun k => laws_FnExactBothOf.j0.eq_2 ..) (Ev.neg (by simp) <| Ev.bind ht <| Ev.bind hg <| Ev.pos rfl <| Ev.bind ht2 <| Ev.bind hg2 <| Ev.pos rfl <| Ev.bind hm1 <| Ev.bind hm1' <| Ev.neg (by simp only; omega) <| Ev.bind hr <| Ev.pos rfl ?_)
      refine Ev.step (fun k => laws_FnExactBothOf.j1.eq_2 ..) (Ev.neg (by simp) <| Ev.bind hm2 <| Ev.bind hh <| Ev.neg (by omega) <| Ev.pos rfl <| Ev.bind ht <| Ev.bind ht2 <| Ev.bind h2 <| Ev.bind hr <| Ev.pos rfl ?_)
      exact Ev.step (fun k => laws_FnExactBothOf.j2.eq_2 ..) (Ev.neg (by simp) <| Ev.bind hh <| Ev.neg (by omega) <| Ev.pos rfl (Ev.now _))
    · exact Ev.bindE (szDiagram_ok a l c _ (by omega) (by omega)) <| Ev.neg (by omega) <| Ev.bindE (szDiagram_big b p e _ (by omega) (by omega) (by omega) hl'.1) (Ev.pos (by omega) (Ev.now _))
  · exact Ev.bindE (szDiagram_big a l c _ (by omega) (by omega) (by omega) hl.1) (Ev.pos (by omega) (Ev.now _))
def ix (β : Int → Bool) : Int → Nat → Nat
  | _, 0 => 0
  | v, n + 1 => (if β (v - 1) = true then 1 else 0) + 2 * ix β (v + 1) n
end Go.Proofs.Ytpndhlcbfobelaa.Pure
