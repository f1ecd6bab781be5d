import Derived.Test.YtpndhlcbfobelaaPBEx2
import Derived.Test.YtpndhlcbfobelaaPBEx3
import Derived.Test.YtpndhlcbfobelaaPBEx4
import Derived.Test.YtpndhlcbfobelaaPBEx5
import Derived.Test.YtpndhlcbfobelaaPBEx6
import Derived.Test.YtpndhlcbfobelaaPBEx7
import Derived.Test.YtpndhlcbfobelaaPBEx8
namespace Go.Proofs.Ytpndhlcbfobelaa.Pure
open Go Go.RowKit Go.Proofs.Ytpndhlcbfobelaa.PBE Go.Proofs.YtpndhlcbfobelaaW.PrintWords Go.Proofs.YtpndhlcbfobelaaW.PrintLast Go.Proofs.YtpndhlcbfobelaaW.PrintMore
set_option linter.unusedVariables false
set_option linter.unusedSimpArgs false
def In (a lo hi : Int) : Bool := decide (lo ≤ a) && decide (a ≤ hi)
theorem In_true {a lo hi : Int} : In a lo hi = true ↔ lo ≤ a ∧ a ≤ hi := by simp [In]
theorem In_ite {a lo hi : Int} : (if a ≥ lo then some (decide (a ≤ hi)) else some false) = some (In a lo hi) := by
  unfold In; by_cases h : lo ≤ a <;> simp [h]
theorem spec_l1In_eq (a b c : Int) : spec_l1In.f a b c = some (In a b c) := by unfold spec_l1In.f; exact In_ite
theorem impl_in_eq (a b c : Int) : impl_in.f a b c = some (In a b c) := by unfold impl_in.f; exact In_ite
def andn (a b : Nat) : Nat := a ^^^ (a &&& b)
theorem wrap_i64_nat (n : Nat) (h : n < 9223372036854775808) : IntKind.i64.wrap (n : Int) = n := by
  rw [IntKind.wrap_i64]; omega
theorem Ev.pos {α : Type} {c : Prop} [Decidable c] {A B : Nat → Option α} {r : α} (h : c) (e : Ev A r) : Ev (fun k => if c then A k else B k) r := Ev.congr (fun _ => if_pos h) e
theorem Ev.neg {α : Type} {c : Prop} [Decidable c] {A B : Nat → Option α} {r : α} (h : ¬ c) (e : Ev B r) : Ev (fun k => if c then A k else B k) r := Ev.congr (fun _ => if_neg h) e
theorem Ev.bindE {α β : Type} {g : Option α} {f : Nat → α → Option β} {a : α} {r : β} (h : g = some a) (k : Ev (fun n => f n a) r) : Ev (fun n => g.bind (f n)) r := by subst h; exact k
theorem Ev.at_ {α : Type} {g : Nat → Option α} {r r' : α} (h : Ev g r) (e : r = r') : Ev g r' := e ▸ h
def Both {α : Type} (P : α → Prop) (g f : Nat → Option α) : Prop := ∃ r, Ev g r ∧ Ev f r ∧ P r
theorem Both.now {α : Type} {P : α → Prop} (r : α) (h : P r) : Both P (fun _ => some r) (fun _ => some r) := ⟨r, Ev.now r, Ev.now r, h⟩
theorem Both.mono {α : Type} {P Q : α → Prop} {g f : Nat → Option α} (h : Both P g f) (hq : ∀ r, P r → Q r) : Both Q g f := by obtain ⟨r, a, b, c⟩ := h; exact ⟨r, a, b, hq r c⟩
theorem w1 (i : Nat) (h : i < 4611686018427387904) : wrap64 ((i : Int) + 1) = ((i + 1 : Nat) : Int) := by unfold wrap64; omega
theorem wrap_id (x : Int) (h0 : -9223372036854775808 ≤ x) (h1 : x ≤ 9223372036854775807) : wrap64 x = x := by unfold wrap64; omega
theorem rd_nat (l : List Int) (i : Nat) (h : i < l.length) : rd l (i : Int) = l[i] := by unfold rd; simp [List.getD, h]
theorem rdOf_nat {α : Type} (d : α) (l : List α) (i : Nat) (h : i < l.length) : rdOf d l (i : Int) = l[i] := by unfold rdOf; simp [List.getD, h]
theorem set_take {α : Type} (l : List α) (i : Nat) (v : α) (h : i < l.length) : (l.set i v).take (i + 1) = l.take i ++ [v] := by
  rw [List.take_succ_eq_append_getElem (by simpa using h), List.take_set_of_le (Nat.le_refl i)]; simp
theorem u64_nat (i : Nat) (h : i < 9223372036854775808) : IntKind.u64.wrap (i : Int) = (i : Int) := by
  have : IntKind.u64.wrap (i : Int) = (i : Int) % 18446744073709551616 := by simp [IntKind.wrap, IntKind.bits, IntKind.signed]
  rw [this]; omega
theorem shl_one (n : Nat) (h : n ≤ 60) : shl .i64 1 (n : Int) = ((2 ^ n : Nat) : Int) := by
  have hb : IntKind.i64.bits = 64 := rfl
  unfold shl
  rw [Int.toNat_natCast, hb, Nat.min_eq_left (by omega), Int.one_mul]
  have h1 : 2 ^ n ≤ 2 ^ 60 := Nat.pow_le_pow_right (by decide) h
  have h2 : ((2 : Int) ^ n) = ((2 ^ n : Nat) : Int) := by rw [Int.natCast_pow]; rfl
  rw [h2]; exact wrap_i64_nat _ (by omega)
def bitM (x : Int) (i : Nat) : Bool := Go.bits .and .i64 (shr .i64 x (i : Int)) 1 == 1
def modelM (n : Nat) (x : Int) : List Bool := (List.range n).map (fun i => bitM x i)
theorem modelM_len (n : Nat) (x : Int) : (modelM n x).length = n := by simp [modelM]
theorem spec_l4Model_loop (n : Nat) (hn : n ≤ 1048576) (x : Int) : ∀ (d i : Nat) (acc : List Bool), i + d = n → acc.length = n → acc.take i = (modelM n x).take i → Ev (fun k => spec_l4Model.l0 k x acc (n : Int) (i : Int)) (modelM n x)
  | 0, i, acc, hi, ha, ht => by
    refine Ev.step (fun k => spec_l4Model.l0.eq_2 ..) (Ev.neg (by omega) ?_)
    rw [List.take_of_length_le (by omega), List.take_of_length_le (by rw [modelM_len]; omega)] at ht
    rw [ht]; exact Ev.now _
  | d + 1, i, acc, hi, ha, ht => by
    refine Ev.step (fun k => spec_l4Model.l0.eq_2 ..) ?_
    rw [u64_nat i (by omega), w1 i (by omega), Int.toNat_natCast]
    refine Ev.pos (by omega) <| Ev.pos (by omega) <| Ev.pos (by omega) <| Ev.pos (by omega) ?_
    refine spec_l4Model_loop n hn x d (i + 1) _ (by omega) (by simpa using ha) ?_
    rw [set_take _ _ _ (by omega), ht, List.take_succ_eq_append_getElem (l := modelM n x) (by rw [modelM_len]; omega)]
    simp [modelM, bitM]
theorem spec_l4Model_ev (n : Nat) (hn : n ≤ 1048576) (x : Int) : Ev (fun k => spec_l4Model.f k (n : Int) x) (modelM n x) := by
  unfold spec_l4Model.f
  refine Ev.pos (by omega) <| Ev.pos (by omega) <| Ev.bindE rfl ?_
  rw [Int.toNat_natCast, List.length_replicate]
  exact spec_l4Model_loop n hn x n 0 _ (by omega) (by simp) (by simp)
theorem impl_model_loop (n : Nat) (hn : n ≤ 1048576) (x : Int) : ∀ (d i : Nat) (acc : List Bool), i + d = n → acc.length = n → acc.take i = (modelM n x).take i → Ev (fun k => impl_model.l0 k x acc (n : Int) (i : Int)) (modelM n x)
  | 0, i, acc, hi, ha, ht => by
    refine Ev.step (fun k => impl_model.l0.eq_2 ..) (Ev.neg (by omega) ?_)
    rw [List.take_of_length_le (by omega), List.take_of_length_le (by rw [modelM_len]; omega)] at ht
    rw [ht]; exact Ev.now _
  | d + 1, i, acc, hi, ha, ht => by
    refine Ev.step (fun k => impl_model.l0.eq_2 ..) ?_
    rw [w1 i (by omega), Int.toNat_natCast]
    refine Ev.pos (by omega) <| Ev.pos (by omega) <| Ev.pos (by omega) ?_
    refine impl_model_loop n hn x d (i + 1) _ (by omega) (by simpa using ha) ?_
    rw [set_take _ _ _ (by omega), ht, List.take_succ_eq_append_getElem (l := modelM n x) (by rw [modelM_len]; omega)]
    simp [modelM, bitM]
theorem impl_model_ev (n : Nat) (hn : n ≤ 1048576) (x : Int) : Ev (fun k => impl_model.f k (n : Int) x) (modelM n x) := by
  unfold impl_model.f
  refine Ev.pos (by omega) <| Ev.pos (by omega) <| Ev.bindE rfl ?_
  rw [Int.toNat_natCast, List.length_replicate]
  exact impl_model_loop n hn x n 0 _ (by omega) (by simp) (by simp)
def GoodK (v m : Int) : Bool := In v 0 65535 && In m 0 65535 && (Go.bits .and .i64 v m == 0)
def GoodS (lo hi : Int) : Bool := In lo 0 65535 && In hi 0 65535 && decide (lo ≤ hi)
def JoinK (a b c d : Int) : Int × Int := (Go.bits .andNot .i64 a (Go.bits .or .i64 (Go.bits .or .i64 b d) (Go.bits .xor .i64 a c)), Go.bits .or .i64 (Go.bits .or .i64 b d) (Go.bits .xor .i64 a c))
def JoinS (a b c d : Int) : Int × Int := (mn a c, mx b d)
def MeetS (a b c d : Int) : Int × Int × Bool := if mx a c > mn b d then (0, 0, false) else (mx a c, mn b d, true)
def LessS (a b c d : Int) : Int × Int × Int × Int × Bool := if a ≥ d then (0, 0, 0, 0, false) else (a, mn b (wrap64 (d - 1)), mx c (wrap64 (a + 1)), d, true)
theorem Nodeb_nat (l : List S75) (i : Nat) (h : i < l.length) : rd_T75 l (i : Int) = l[i] := by unfold rd_T75; simp [List.getD, h]
theorem eqNode_self (a0 a1 a2 : Int) : laws_eqNode.f a0 a1 a2 a0 a1 a2 = some true := by unfold laws_eqNode.f; simp
theorem eqNodeS_loop (l : List S75) (hl : l.length ≤ 1099511627776) : ∀ (d i : Nat), i + d = l.length → Ev (fun k => laws_eqNodeS.l0 k l l (i : Int)) true
  | 0, i, hi => by
    refine Ev.step (fun k => laws_eqNodeS.l0.eq_2 ..) ?_
    exact Ev.neg (by omega) (Ev.now _)
  | d + 1, i, hi => by
    refine Ev.step (fun k => laws_eqNodeS.l0.eq_2 ..) ?_
    refine Ev.pos (by omega) (Ev.pos (by omega) (Ev.pos (by omega) (Ev.bindE (eqNode_self ..) (Ev.pos rfl ?_))))
    rw [w1 i (by omega)]
    exact eqNodeS_loop l hl d (i + 1) (by omega)
theorem eqNodeS_self (l : List S75) (hl : l.length ≤ 1099511627776) : Ev (fun k => laws_eqNodeS.f k l l) true := by
  unfold laws_eqNodeS.f
  exact Ev.pos rfl (eqNodeS_loop l hl l.length 0 (by omega))
theorem Nodeb_set (l : List S75) (i : Nat) (v : S75) (h : i < l.length) : rd_T75 (l.set i v) (i : Int) = v := by
  rw [Nodeb_nat _ _ (by simpa using h)]; simp
def mkNode (m : Int) (n : Nat) : List S75 := (List.range n).map (fun j : Nat => (⟨m + 3 * j + 0, m + 3 * j + 1, m + 3 * j + 2⟩ : S75))
theorem markNodeS_loop (n : Nat) (m : Int) (hl : n ≤ 1099511627776) (hm : 0 ≤ m ∧ m ≤ 1099511627776) : ∀ (d i : Nat) (acc : List S75), i + d = n → acc.length = n → acc.take i = (mkNode m n).take i → Ev (fun k => laws_markNodeS.l0 k acc (m + 3 * (i : Int)) (i : Int)) (m + 3 * (n : Int), mkNode m n)
  | 0, i, acc, hi, ha, ht => by
    refine Ev.step (fun k => laws_markNodeS.l0.eq_2 ..) ?_
    refine Ev.neg (by omega) ?_
    rw [List.take_of_length_le (by omega), List.take_of_length_le (by simp [mkNode]; omega)] at ht
    obtain rfl : i = n := by omega
    rw [ht]; exact Ev.now _
  | d + 1, i, acc, hi, ha, ht => by
    refine Ev.step (fun k => laws_markNodeS.l0.eq_2 ..) ?_
    have hi' : i < acc.length := by omega
    refine Ev.pos (by omega) (Ev.pos (by omega) (Ev.bindE rfl (Ev.bindE rfl ?_)))
    simp only [Int.toNat_natCast, Nodeb_set _ _ _ hi', List.set_set, List.length_set, wrap64]
    have hb : ∀ x : Int, 0 ≤ x → x < 9223372036854775808 → (x + 9223372036854775808) % 18446744073709551616 - 9223372036854775808 = x := fun x _ _ => by omega
    have e0 : (m + 3 * (i : Int)) = m + 3 * (i : Int) + 0 := by omega
    rw [hb (m + 3 * (i : Int) + 1) (by omega) (by omega), hb (m + 3 * (i : Int) + 1 + 1) (by omega) (by omega), hb (m + 3 * (i : Int) + 1 + 1 + 1) (by omega) (by omega), hb ((i : Int) + 1) (by omega) (by omega)]
    rw [show ((i : Int) + 1) = ((i + 1 : Nat) : Int) by omega, show (m + 3 * (i : Int) + 1 + 1 + 1) = m + 3 * ((i + 1 : Nat) : Int) by omega]
    skip
    refine markNodeS_loop n m hl hm d (i + 1) _ (by omega) (by simpa using ha) ?_
    rw [set_take _ _ _ hi', ht, List.take_succ_eq_append_getElem (l := mkNode m n) (by simp [mkNode]; omega)]
    simp [mkNode, Int.add_assoc]
theorem markNodeS_ev (l : List S75) (m : Int) (hl : l.length ≤ 1099511627776) (hm : 0 ≤ m ∧ m ≤ 1099511627776) : Ev (fun k => laws_markNodeS.f k l m) (m + 3 * (l.length : Int), mkNode m l.length) := by
  unfold laws_markNodeS.f
  have h := markNodeS_loop l.length m hl hm l.length 0 l (by omega) rfl (by simp)
  simpa using h
theorem heldNodeS_loop (n : Nat) (m : Int) (hl : n ≤ 1099511627776) (hm : 0 ≤ m ∧ m ≤ 1099511627776) : ∀ (d i : Nat), i + d = n → Ev (fun k => laws_heldNodeS.l0 k (mkNode m n) (m + 3 * (i : Int)) (i : Int)) (m + 3 * (n : Int))
  | 0, i, hi => by
    have hlen : (mkNode m n).length = n := by simp [mkNode]
    refine Ev.step (fun k => laws_heldNodeS.l0.eq_2 ..) ?_
    refine Ev.neg (by omega) ?_
    obtain rfl : i = n := by omega
    exact Ev.now _
  | d + 1, i, hi => by
    have hlen : (mkNode m n).length = n := by simp [mkNode]
    refine Ev.step (fun k => laws_heldNodeS.l0.eq_2 ..) ?_
    have hg : rd_T75 (mkNode m n) (i : Int) = ⟨m + 3 * (i : Int) + 0, m + 3 * (i : Int) + 1, m + 3 * (i : Int) + 2⟩ := by rw [Nodeb_nat _ _ (by omega)]; simp [mkNode]
    have hb : ∀ x : Int, 0 ≤ x → x < 9223372036854775808 → (x + 9223372036854775808) % 18446744073709551616 - 9223372036854775808 = x := fun x _ _ => by omega
    simp only [hg, wrap64]
    rw [hb (m + 3 * (i : Int) + 1) (by omega) (by omega), hb (m + 3 * (i : Int) + 1 + 1) (by omega) (by omega), hb (m + 3 * (i : Int) + 1 + 1 + 1) (by omega) (by omega), hb ((i : Int) + 1) (by omega) (by omega)]
    refine Ev.pos (by omega) (Ev.pos (by omega) (Ev.pos (by omega) (Ev.pos (by omega) (Ev.pos (by omega) ?_))))
    rw [show ((i : Int) + 1) = ((i + 1 : Nat) : Int) by omega, show (m + 3 * (i : Int) + 1 + 1 + 1) = m + 3 * ((i + 1 : Nat) : Int) by omega]
    exact heldNodeS_loop n m hl hm d (i + 1) (by omega)
theorem heldNodeS_ev (n : Nat) (m : Int) (hl : n ≤ 1099511627776) (hm : 0 ≤ m ∧ m ≤ 1099511627776) : Ev (fun k => laws_heldNodeS.f k (mkNode m n) m) (m + 3 * (n : Int)) := by
  unfold laws_heldNodeS.f
  have h := heldNodeS_loop n m hl hm n 0 (by omega)
  simpa using h
theorem toIntS_loop (l : List Int) (hl : l.length ≤ 1099511627776) : ∀ (d i : Nat) (acc : List Int), i + d = l.length → acc.length = l.length → acc.take i = l.take i → Ev (fun k => laws_toIntS.l0 k l acc (i : Int)) l
  | 0, i, acc, hi, ha, ht => by
    refine Ev.step (fun k => laws_toIntS.l0.eq_2 ..) ?_
    refine Ev.neg (by omega) ?_
    rw [List.take_of_length_le (by omega), List.take_of_length_le (by omega)] at ht
    rw [ht]; exact Ev.now _
  | d + 1, i, acc, hi, ha, ht => by
    refine Ev.step (fun k => laws_toIntS.l0.eq_2 ..) ?_
    refine Ev.pos (by omega) (Ev.pos (by omega) (Ev.pos (by omega) ?_))
    rw [w1 i (by omega), Int.toNat_natCast]
    refine toIntS_loop l hl d (i + 1) _ (by omega) (by simpa using ha) ?_
    rw [set_take _ _ _ (by omega), ht, List.take_succ_eq_append_getElem (show i < l.length by omega), rd_nat l i (by omega)]
theorem toIntS_ev (l : List Int) (hl : l.length ≤ 1048576) : Ev (fun k => laws_toIntS.f k l) l := by
  unfold laws_toIntS.f
  refine Ev.pos (by omega) (Ev.pos (by omega) ?_)
  exact toIntS_loop l (by omega) l.length 0 _ (by omega) (by simp) (by simp)
theorem eqIntS_loop (l : List Int) (hl : l.length ≤ 1099511627776) : ∀ (d i : Nat), i + d = l.length → Ev (fun k => laws_eqIntS.l0 k l l (i : Int)) true
  | 0, i, hi => by
    refine Ev.step (fun k => laws_eqIntS.l0.eq_2 ..) ?_
    exact Ev.neg (by omega) (Ev.now _)
  | d + 1, i, hi => by
    refine Ev.step (fun k => laws_eqIntS.l0.eq_2 ..) ?_
    refine Ev.pos (by omega) (Ev.pos (by omega) (Ev.pos (by omega) (Ev.pos rfl ?_)))
    rw [w1 i (by omega)]
    exact eqIntS_loop l hl d (i + 1) (by omega)
theorem eqIntS_self (l : List Int) (hl : l.length ≤ 1099511627776) : Ev (fun k => laws_eqIntS.f k l l) true := by
  unfold laws_eqIntS.f
  exact Ev.pos rfl (eqIntS_loop l hl l.length 0 (by omega))
def mkInt (m : Int) (n : Nat) : List Int := (List.range n).map (fun j : Nat => m + (j : Int))
theorem markIntS_loop (n : Nat) (m : Int) (hl : n ≤ 1099511627776) (hm : 0 ≤ m ∧ m ≤ 1099511627776) : ∀ (d i : Nat) (acc : List Int), i + d = n → acc.length = n → acc.take i = (mkInt m n).take i → Ev (fun k => laws_markIntS.l0 k acc (m + (i : Int)) (i : Int)) (m + (n : Int), mkInt m n)
  | 0, i, acc, hi, ha, ht => by
    refine Ev.step (fun k => laws_markIntS.l0.eq_2 ..) ?_
    refine Ev.neg (by omega) ?_
    rw [List.take_of_length_le (by omega), List.take_of_length_le (by simp [mkInt]; omega)] at ht
    obtain rfl : i = n := by omega
    rw [ht]; exact Ev.now _
  | d + 1, i, acc, hi, ha, ht => by
    refine Ev.step (fun k => laws_markIntS.l0.eq_2 ..) ?_
    have hi' : i < acc.length := by omega
    refine Ev.pos (by omega) (Ev.pos (by omega) ?_)
    rw [w1 i (by omega), Int.toNat_natCast, show wrap64 (m + (i : Int) + 1) = m + ((i + 1 : Nat) : Int) by unfold wrap64; omega]
    refine markIntS_loop n m hl hm d (i + 1) _ (by omega) (by simpa using ha) ?_
    rw [set_take _ _ _ hi', ht, List.take_succ_eq_append_getElem (l := mkInt m n) (by simp [mkInt]; omega)]
    simp [mkInt]
theorem markIntS_ev (l : List Int) (m : Int) (hl : l.length ≤ 1099511627776) (hm : 0 ≤ m ∧ m ≤ 1099511627776) : Ev (fun k => laws_markIntS.f k l m) (m + (l.length : Int), mkInt m l.length) := by
  unfold laws_markIntS.f
  have h := markIntS_loop l.length m hl hm l.length 0 l (by omega) rfl (by simp)
  simpa using h
theorem rdL_nat (l : List (List Int)) (i : Nat) (h : i < l.length) : rd_L2 l (i : Int) = l[i] := by unfold rd_L2; simp [List.getD, h]
theorem eqIntSS_loop (l : List (List Int)) (hl : l.length ≤ 1048576) (hr : ∀ c, c ∈ l → c.length ≤ 1048576) : ∀ (d i : Nat), i + d = l.length → Ev (fun k => laws_eqIntSS.l0 k l l (i : Int)) true
  | 0, i, hi => Ev.step (fun k => laws_eqIntSS.l0.eq_2 ..) (Ev.neg (by omega) (Ev.now _))
  | d + 1, i, hi => by
    have h : i < l.length := by omega
    have hc := hr l[i] (List.getElem_mem h)
    refine Ev.step (fun k => laws_eqIntSS.l0.eq_2 ..) (Ev.pos (by omega) (Ev.pos (by omega) (Ev.pos (by omega) ?_)))
    rw [rdL_nat l i h, w1 i (by omega)]
    exact Ev.bind (eqIntS_self _ (by omega)) (Ev.pos rfl (eqIntSS_loop l hl hr d (i + 1) (by omega)))
theorem eqIntSS_self (l : List (List Int)) (hl : l.length ≤ 1048576) (hr : ∀ c, c ∈ l → c.length ≤ 1048576) : Ev (fun k => laws_eqIntSS.f k l l) true := by
  unfold laws_eqIntSS.f
  exact Ev.pos rfl (eqIntSS_loop l hl hr l.length 0 (by omega))
def mkSS : Int → List (List Int) → List (List Int)
  | _, [] => []
  | m, r :: rs => mkInt m r.length :: mkSS (m + (r.length : Int)) rs
def totSS : List (List Int) → Nat
  | [] => 0
  | r :: rs => r.length + totSS rs
theorem markIntSS_loop : ∀ (rest dn : List (List Int)) (m : Int), dn.length + rest.length ≤ 1048576 → 0 ≤ m → m + (totSS rest : Int) ≤ 1099511627776 → Ev (fun k => laws_markIntSS.l0 k (dn ++ rest) m (dn.length : Int)) (m + (totSS rest : Int), dn ++ mkSS m rest)
  | [], dn, m, _, _, _ => by
    refine Ev.step (fun k => laws_markIntSS.l0.eq_2 ..) ?_
    rw [List.append_nil]
    refine Ev.neg (by omega) (Ev.at_ (Ev.now _) ?_)
    simp [totSS, mkSS]
  | r :: rest, dn, m, hl, hm, ht => by
    rw [List.length_cons] at hl
    have hts : totSS (r :: rest) = r.length + totSS rest := rfl
    refine Ev.step (fun k => laws_markIntSS.l0.eq_2 ..) ?_
    have hlen : (dn ++ r :: rest).length = dn.length + (rest.length + 1) := by rw [List.length_append, List.length_cons]
    refine Ev.pos (by omega) (Ev.pos (by omega) ?_)
    have eg : (dn ++ r :: rest).getD dn.length [] = r := by simp [List.getD]
    have es : (dn ++ r :: rest).set dn.length (mkInt m r.length) = (dn ++ [mkInt m r.length]) ++ rest := by simp
    rw [Int.toNat_natCast, eg, w1 dn.length (by omega)]
    refine Ev.bind (markIntS_ev r m (by omega) (by omega)) ?_
    simp only
    rw [es]
    have ih := markIntSS_loop rest (dn ++ [mkInt m r.length]) (m + (r.length : Int)) (by rw [List.length_append, List.length_singleton]; omega) (by omega) (by omega)
    rw [List.length_append, List.length_singleton] at ih
    refine Ev.at_ ih ?_
    rw [List.append_assoc]
    show _ = (_, dn ++ (mkInt m r.length :: mkSS (m + (r.length : Int)) rest))
    rw [List.singleton_append, hts]
    congr 1
    omega
theorem markIntSS_ev (l : List (List Int)) (m : Int) (hl : l.length ≤ 1048576) (hm : 0 ≤ m) (ht : m + (totSS l : Int) ≤ 1099511627776) : Ev (fun k => laws_markIntSS.f k l m) (m + (totSS l : Int), mkSS m l) := by
  have h := markIntSS_loop l [] m (by simpa using hl) hm ht
  unfold laws_markIntSS.f
  exact h
def deposit (m : Nat) : Nat → Nat → Nat → Nat → Nat
  | 0, _, _, out => out
  | d + 1, j, n, out => if m.testBit j = true then deposit m d (j + 1) (n / 2) (out + n % 2 * 2 ^ j) else deposit m d (j + 1) n out
theorem wrap_i64 (y : Int) : IntKind.i64.wrap y = wrap64 y := by
  rw [IntKind.wrap_i64]; unfold wrap64; omega
def EndsM (x y : Int) : Int × Int := if x / 65536 = y / 65536 then (x % 65536, y % 65536) else (0, 65535)
def mayN (v m x : Nat) : Nat := if x = 1 then v ||| m else andn 65535 v
def allIn (lo hi : Int) (l : List Int) : Bool := l.all fun x => In x lo hi
def tr : List Bool → Nat → List Int
  | [], _ => []
  | b :: v, s => if b = true then (s : Int) :: tr v (s + 1) else tr v (s + 1)
def putP : List Int → Int → List Int
  | [], x => [x]
  | a :: l, x => if a < x then a :: putP l x else if a = x then a :: l else x :: a :: l
theorem l1Has_loop (l : List Int) (x : Int) (hl : l.length ≤ 1099511627776) : ∀ (d i : Nat), i + d = l.length → Ev (fun k => spec_l1Has.l0 k x l (l.length : Int) (i : Int)) (decide (x ∈ l.drop i))
  | 0, i, h => by
    rw [List.drop_eq_nil_of_le (by omega)]
    exact Ev.step (fun k => spec_l1Has.l0.eq_2 ..) (Ev.neg (by omega) (Ev.now _))
  | d + 1, i, h => by
    refine Ev.step (fun k => spec_l1Has.l0.eq_2 ..) (Ev.pos (by omega) (Ev.pos (by omega) (Ev.pos (by omega) ?_)))
    rw [rd_nat l i (by omega), w1 i (by omega), List.drop_eq_getElem_cons (show i < l.length by omega)]
    by_cases hx : l[i] = x
    · refine Ev.pos hx (Ev.at_ (Ev.now _) ?_); simp [hx]
    · refine Ev.neg hx (Ev.at_ (l1Has_loop l x hl d (i + 1) (by omega)) ?_)
      have : ¬ x = l[i] := fun h => hx h.symm
      simp only [List.mem_cons, this, false_or]
theorem l1Has_ev (l : List Int) (x : Int) (hl : l.length ≤ 1099511627776) : Ev (fun k => spec_l1Has.f k l x) (decide (x ∈ l)) := by
  have h := l1Has_loop l x hl l.length 0 (by omega)
  rw [List.drop_zero] at h
  exact h
def trp (f : Nat → Bool) : List Bool → Nat → List Int
  | [], _ => []
  | b :: v, s => if (b && f s) = true then (s : Int) :: trp f v (s + 1) else trp f v (s + 1)
theorem eqDiagram_self (a : Int) (l : List S75) (c : Int) (hl : l.length ≤ 1099511627776) : Ev (fun k => laws_eqDiagram.f k a l c a l c) true := by
  unfold laws_eqDiagram.f
  exact Ev.pos rfl (Ev.bind (eqNodeS_self l hl) (Ev.pos rfl (Ev.pos rfl (Ev.now _))))
theorem markDiagram_ev (a : Int) (l : List S75) (c m : Int) (hl : l.length ≤ 1099511627776) (hm : 0 ≤ m ∧ m ≤ 1099511627776) : Ev (fun k => laws_markDiagram.f k a l c m) (m + 3 * (l.length : Int), mkNode m l.length) := by
  unfold laws_markDiagram.f
  exact Ev.bind (markNodeS_ev l m hl hm) (Ev.now _)
def halves : List Bool → List Bool × List Bool
  | [] => ([], [])
  | x :: t => (x :: (halves t).2, (halves t).1)
theorem halves_len : ∀ t : List Bool, (halves t).1.length + (halves t).2.length = t.length ∧ (halves t).2.length ≤ (halves t).1.length ∧ (halves t).1.length ≤ (halves t).2.length + 1
  | [] => by simp [halves]
  | x :: t => by have := halves_len t; simp only [halves, List.length_cons]; omega
theorem l7Half_loop (t : List Bool) (hl : t.length ≤ 1048576) : ∀ (d i : Nat) (acc : List Bool), t.length ≤ i + d → acc.length ≤ i → i ≤ t.length + 1 → Ev (fun k => spec_l7Half.l0 k t acc (i : Int)) (acc ++ (halves (t.drop i)).1)
  | 0, i, acc, h, ha, hi => by
    rw [List.drop_eq_nil_of_le (by omega)]
    exact Ev.step (fun k => spec_l7Half.l0.eq_2 ..) (Ev.neg (by omega) (Ev.at_ (Ev.now _) (by simp [halves])))
  | d + 1, i, acc, h, ha, hi => by
    by_cases hlt : i < t.length
    · refine Ev.step (fun k => spec_l7Half.l0.eq_2 ..) (Ev.pos (by omega) (Ev.pos (by omega) (Ev.pos (by omega) ?_)))
      rw [rdOf_nat false t i hlt, show wrap64 ((i : Int) + 2) = ((i + 2 : Nat) : Int) by unfold wrap64; omega]
      refine Ev.at_ (l7Half_loop t hl d (i + 2) (acc ++ [t[i]]) (by omega) (by simp; omega) (by omega)) ?_
      rw [List.drop_eq_getElem_cons hlt]
      by_cases h2 : i + 1 < t.length
      · rw [List.drop_eq_getElem_cons h2]; simp [halves]
      · rw [List.drop_eq_nil_of_le (show t.length ≤ i + 1 by omega), List.drop_eq_nil_of_le (show t.length ≤ i + 2 by omega)]; simp [halves]
    · rw [List.drop_eq_nil_of_le (by omega)]
      exact Ev.step (fun k => spec_l7Half.l0.eq_2 ..) (Ev.neg (by omega) (Ev.at_ (Ev.now _) (by simp [halves])))
theorem l7Half0_ev (t : List Bool) (hl : t.length ≤ 1048576) : Ev (fun k => spec_l7Half.f k t 0) (halves t).1 := by
  have h := l7Half_loop t hl t.length 0 [] (by omega) (by simp) (by omega)
  rw [List.drop_zero, List.nil_append] at h
  exact h
theorem l7Half1_ev (t : List Bool) (hl : t.length ≤ 1048576) : Ev (fun k => spec_l7Half.f k t 1) (halves t).2 := by
  have h := l7Half_loop t hl t.length 1 [] (by omega) (by simp) (by omega)
  rw [List.nil_append] at h
  have e : (halves (t.drop 1)).1 = (halves t).2 := by cases t with
    | nil => rfl
    | cons x t => rfl
  rw [e] at h
  exact h
theorem splits_loop (t : List Bool) (hl : t.length ≤ 1048576) : ∀ (d i : Nat) (lo hi : List Bool), i + d = t.length → lo.length ≤ i → hi.length ≤ i → Ev (fun k => impl_Diagram_build.l0 k t lo hi (i : Int)) (if i % 2 = 0 then (lo ++ (halves (t.drop i)).1, hi ++ (halves (t.drop i)).2) else (lo ++ (halves (t.drop i)).2, hi ++ (halves (t.drop i)).1))
  | 0, i, lo, hi, h, h1, h2 => by
    rw [List.drop_eq_nil_of_le (by omega)]
    exact Ev.step (fun k => impl_Diagram_build.l0.eq_2 ..) (Ev.neg (by omega) (Ev.at_ (Ev.now _) (by split <;> simp [halves])))
  | d + 1, i, lo, hi, h, h1, h2 => by
    refine Ev.step (fun k => impl_Diagram_build.l0.eq_2 ..) (Ev.pos (by omega) (Ev.pos (by omega) ?_))
    rw [rdOf_nat false t i (by omega), w1 i (by omega), List.drop_eq_getElem_cons (show i < t.length by omega)]
    by_cases hp : i % 2 = 0
    · rw [if_pos hp]
      refine Ev.pos (by omega) (Ev.pos (by omega) (Ev.at_ (splits_loop t hl d (i + 1) (lo ++ [t[i]]) hi (by omega) (by simp; omega) (by omega)) ?_))
      rw [if_neg (by omega)]; simp [halves]
    · rw [if_neg hp]
      refine Ev.neg (by omega) (Ev.pos (by omega) (Ev.at_ (splits_loop t hl d (i + 1) lo (hi ++ [t[i]]) (by omega) (by omega) (by simp; omega)) ?_))
      rw [if_pos (by omega)]; simp [halves]
theorem splits_ev (t : List Bool) (hl : t.length ≤ 1048576) : Ev (fun k => impl_Diagram_build.l0 k t [] [] 0) (halves t) := by
  have h := splits_loop t hl t.length 0 [] [] (by omega) (by simp) (by simp)
  rw [List.drop_zero, if_pos rfl] at h
  exact h
theorem spec_l7SameTable_loop (a b : List Bool) (h : a.length = b.length) (hl : a.length ≤ 1048576) : ∀ (d i : Nat), i + d = a.length → Ev (fun k => spec_l7SameTable.l0 k a b (a.length : Int) (i : Int)) (decide (a.drop i = b.drop i))
  | 0, i, hi => by
    rw [List.drop_eq_nil_of_le (by omega), List.drop_eq_nil_of_le (by omega)]
    exact Ev.step (fun k => spec_l7SameTable.l0.eq_2 ..) (Ev.neg (by omega) (Ev.at_ (Ev.now _) (by simp)))
  | d + 1, i, hi => by
    refine Ev.step (fun k => spec_l7SameTable.l0.eq_2 ..) (Ev.pos (by omega) (Ev.pos (by omega) (Ev.pos (by omega) (Ev.pos (by omega) ?_))))
    rw [rdOf_nat false a i (by omega), rdOf_nat false b i (by omega), w1 i (by omega), List.drop_eq_getElem_cons (show i < a.length by omega), List.drop_eq_getElem_cons (show i < b.length by omega)]
    by_cases hx : a[i] = b[i]
    · refine Ev.neg (by simp [hx]) (Ev.at_ (spec_l7SameTable_loop a b h hl d (i + 1) (by omega)) ?_)
      simp only [hx, List.cons.injEq, true_and]
    · refine Ev.pos (by simpa using hx) (Ev.at_ (Ev.now _) ?_)
      simp only [List.cons.injEq, hx, false_and, decide_false]
theorem slices_Equal_bool_bool_loop (a b : List Bool) (h : a.length = b.length) (hl : a.length ≤ 1048576) : ∀ (d i : Nat), i + d = a.length → Ev (fun k => slices_Equal_bool_bool.l0 k a b (a.length : Int) (i : Int)) (decide (a.drop i = b.drop i))
  | 0, i, hi => by
    rw [List.drop_eq_nil_of_le (by omega), List.drop_eq_nil_of_le (by omega)]
    exact Ev.step (fun k => slices_Equal_bool_bool.l0.eq_2 ..) (Ev.neg (by omega) (Ev.at_ (Ev.now _) (by simp)))
  | d + 1, i, hi => by
    refine Ev.step (fun k => slices_Equal_bool_bool.l0.eq_2 ..) (Ev.pos (by omega) (Ev.pos (by omega) (Ev.pos (by omega) (Ev.pos (by omega) ?_))))
    rw [rdOf_nat false a i (by omega), rdOf_nat false b i (by omega), w1 i (by omega), List.drop_eq_getElem_cons (show i < a.length by omega), List.drop_eq_getElem_cons (show i < b.length by omega)]
    by_cases hx : a[i] = b[i]
    · refine Ev.neg (by simp [hx]) (Ev.at_ (slices_Equal_bool_bool_loop a b h hl d (i + 1) (by omega)) ?_)
      simp only [hx, List.cons.injEq, true_and]
    · refine Ev.pos (by simpa using hx) (Ev.at_ (Ev.now _) ?_)
      simp only [List.cons.injEq, hx, false_and, decide_false]
theorem sameTable_ev (a b : List Bool) (h : a.length = b.length) (hl : a.length ≤ 1048576) : Ev (fun k => spec_l7SameTable.f k a b) (decide (a = b)) := by
  have := spec_l7SameTable_loop a b h hl a.length 0 (by omega)
  rw [List.drop_zero, List.drop_zero] at this
  exact this
theorem equalB_ev (a b : List Bool) (hl : a.length ≤ 1048576) : Ev (fun k => slices_Equal_bool_bool.f k a b) (decide (a = b)) := by
  unfold slices_Equal_bool_bool.f
  by_cases h : a.length = b.length
  · have := slices_Equal_bool_bool_loop a b h hl a.length 0 (by omega)
    rw [List.drop_zero, List.drop_zero] at this
    exact Ev.pos (by omega) this
  · refine Ev.neg (by omega) (Ev.at_ (Ev.now _) ?_)
    exact (decide_eq_false (fun e => h (by rw [e]))).symm
def eqN (x n : S75) : Bool := x.f0 == n.f0 && (x.f1 == n.f1 && x.f2 == n.f2)
theorem eqN_iff (x n : S75) : eqN x n = true ↔ x = n := by
  cases x; cases n; simp [eqN]
theorem eqN_comm (x n : S75) : eqN x n = eqN n x := by
  rw [Bool.eq_iff_iff, eqN_iff, eqN_iff]; exact ⟨fun h => h.symm, fun h => h.symm⟩
def eqL : List S75 → List S75 → Bool
  | [], [] => true
  | x :: s, y :: t => eqN x y && eqL s t
  | _, _ => false
def findP : List S75 → S75 → Int → Int
  | [], _, _ => -1
  | x :: t, n, i => if eqN x n = true then i else findP t n (i + 1)
theorem findP_bd : ∀ (t : List S75) (n : S75) (i : Int), 0 ≤ i → findP t n i = -1 ∨ (i ≤ findP t n i ∧ findP t n i < i + t.length)
  | [], _, _, _ => .inl rfl
  | x :: t, n, i, h => by
    unfold findP
    split
    · right; simp; omega
    · rcases findP_bd t n (i + 1) (by omega) with h1 | h1
      · exact .inl h1
      · right; simp only [List.length_cons]; omega
def bld : Nat → Int → List Bool → List S75 → Int × List S75
  | 0, _, t, q => (if rdOf false t 0 = true then 1 else 0, q)
  | n + 1, v, t, q => if (halves t).1 = (halves t).2 then bld n (v + 1) (halves t).1 q else
      (if findP (bld n (v + 1) (halves t).2 (bld n (v + 1) (halves t).1 q).2).2 ⟨v, (bld n (v + 1) (halves t).1 q).1, (bld n (v + 1) (halves t).2 (bld n (v + 1) (halves t).1 q).2).1⟩ 0 < 0
       then (((bld n (v + 1) (halves t).2 (bld n (v + 1) (halves t).1 q).2).2.length : Int) + 2, (bld n (v + 1) (halves t).2 (bld n (v + 1) (halves t).1 q).2).2 ++ [⟨v, (bld n (v + 1) (halves t).1 q).1, (bld n (v + 1) (halves t).2 (bld n (v + 1) (halves t).1 q).2).1⟩])
       else (findP (bld n (v + 1) (halves t).2 (bld n (v + 1) (halves t).1 q).2).2 ⟨v, (bld n (v + 1) (halves t).1 q).1, (bld n (v + 1) (halves t).2 (bld n (v + 1) (halves t).1 q).2).1⟩ 0 + 2, (bld n (v + 1) (halves t).2 (bld n (v + 1) (halves t).1 q).2).2))
theorem bld_len : ∀ (n : Nat) (v : Int) (t : List Bool) (q : List S75), (bld n v t q).2.length + 1 ≤ q.length + 2 ^ n
  | 0, v, t, q => by simp [bld]
  | n + 1, v, t, q => by
    have h1 := bld_len n (v + 1) (halves t).1 q
    have h2 := bld_len n (v + 1) (halves t).2 (bld n (v + 1) (halves t).1 q).2
    have e : 2 ^ (n + 1) = 2 ^ n + 2 ^ n := by rw [Nat.pow_succ]; omega
    rw [e]
    generalize 2 ^ n = P at h1 h2 ⊢
    unfold bld
    split
    · omega
    · split
      · simp only [List.length_append, List.length_cons, List.length_nil]; omega
      · simp only; omega
theorem halves_pow (t : List Bool) (n : Nat) (h : t.length = 2 ^ (n + 1)) : (halves t).1.length = 2 ^ n ∧ (halves t).2.length = 2 ^ n := by
  have := halves_len t
  have e : 2 ^ (n + 1) = 2 ^ n + 2 ^ n := by rw [Nat.pow_succ]; omega
  rw [e] at h
  generalize 2 ^ n = P at h ⊢
  omega
theorem indexN_loop (q : List S75) (hl : q.length ≤ 1048576) (n : S75) : ∀ (d i : Nat), i + d = q.length → Ev (fun k => impl_Node_110.l0 k q (q.length : Int) (i : Int) n.f0 n.f1 n.f2) (findP (q.drop i) n (i : Int))
  | 0, i, h => by
    rw [List.drop_eq_nil_of_le (by omega)]
    exact Ev.step (fun k => impl_Node_110.l0.eq_2 ..) (Ev.neg (by omega) (Ev.now _))
  | d + 1, i, h => by
    refine Ev.step (fun k => impl_Node_110.l0.eq_2 ..) (Ev.pos (by omega) (Ev.pos (by omega) (Ev.pos (by omega) ?_)))
    rw [Nodeb_nat q i (by omega), w1 i (by omega), List.drop_eq_getElem_cons (show i < q.length by omega)]
    have e : (n.f0 == q[i].f0 && (n.f1 == q[i].f1 && n.f2 == q[i].f2)) = eqN q[i] n := eqN_comm n q[i]
    rw [e]
    unfold findP
    by_cases hx : eqN q[i] n = true
    · rw [if_pos hx]; exact Ev.pos hx (Ev.now _)
    · rw [if_neg hx]
      exact Ev.neg hx (indexN_loop q hl n d (i + 1) (by omega))
theorem indexN_ev (q : List S75) (hl : q.length ≤ 1048576) (v a b : Int) : Ev (fun k => impl_Node_110.f k q v a b) (findP q ⟨v, a, b⟩ 0) := by
  have h := indexN_loop q hl ⟨v, a, b⟩ q.length 0 (by omega)
  rw [List.drop_zero] at h
  exact h
theorem lp_loop (q : List S75) (hl : q.length ≤ 1048576) (n : S75) : ∀ (d i : Nat), i + d = q.length → Ev (fun k => spec_l7B_build.lp k q n.f0 n.f1 n.f2 (i : Int)) (if findP (q.drop i) n (i : Int) < 0 then -1 else findP (q.drop i) n (i : Int) + 2)
  | 0, i, h => by
    rw [List.drop_eq_nil_of_le (by omega)]
    exact Ev.step (fun k => spec_l7B_build.lp.eq_2 ..) (Ev.neg (by omega) (Ev.now _))
  | d + 1, i, h => by
    refine Ev.step (fun k => spec_l7B_build.lp.eq_2 ..) (Ev.pos (by omega) (Ev.pos (by omega) ?_))
    rw [Nodeb_nat q i (by omega), w1 i (by omega), List.drop_eq_getElem_cons (show i < q.length by omega)]
    unfold findP
    by_cases hx : eqN q[i] n = true
    · rw [if_pos hx, if_neg (by omega)]; exact Ev.pos hx (Ev.now _)
    · rw [if_neg hx]
      exact Ev.neg hx (lp_loop q hl n d (i + 1) (by omega))
theorem lp_ev (q : List S75) (hl : q.length ≤ 1048576) (v a b : Int) : Ev (fun k => spec_l7B_build.lp k q v a b 0) (if findP q ⟨v, a, b⟩ 0 < 0 then -1 else findP q ⟨v, a, b⟩ 0 + 2) := by
  have h := lp_loop q hl ⟨v, a, b⟩ q.length 0 (by omega)
  rw [List.drop_zero] at h
  exact h
theorem build_ev : ∀ (n : Nat) (v : Int) (t : List Bool) (q : List S75), t.length = 2 ^ n → 2 ^ n ≤ 1024 → 0 ≤ v → v + n ≤ 1000 → q.length + 2 ^ n ≤ 65536 → Ev (fun k => impl_Diagram_build.f k v t q) (bld n v t q)
  | 0, v, t, q, ht, hp, hv, hn, hq => by
    refine Ev.step (fun k => impl_Diagram_build.f.eq_2 ..) (Ev.pos (by rw [ht]; rfl) (Ev.now _))
  | n + 1, v, t, q, ht, hp, hv, hn, hq => by
    have hh := halves_pow t n ht
    have e : 2 ^ (n + 1) = 2 ^ n + 2 ^ n := by rw [Nat.pow_succ]; omega
    have hP : 0 < 2 ^ n := Nat.pow_pos (by decide)
    rw [e] at ht hp hq
    have b1 := bld_len n (v + 1) (halves t).1 q
    have b2 := bld_len n (v + 1) (halves t).2 (bld n (v + 1) (halves t).1 q).2
    have i1 := build_ev n (v + 1) (halves t).1 q hh.1 (by omega) (by omega) (by omega) (by omega)
    have i2 := build_ev n (v + 1) (halves t).2 (bld n (v + 1) (halves t).1 q).2 hh.2 (by omega) (by omega) (by omega) (by omega)
    generalize 2 ^ n = P at *
    refine Ev.step (fun k => impl_Diagram_build.f.eq_2 ..) (Ev.neg (by omega) (Ev.bind (splits_ev t (by omega)) (Ev.bind (equalB_ev _ _ (by omega)) ?_)))
    rw [wrap_id (v + 1) (by omega) (by omega)]
    unfold bld
    by_cases hx : (halves t).1 = (halves t).2
    · rw [if_pos hx]; exact Ev.pos (decide_eq_true hx) i1
    · rw [if_neg hx]
      refine Ev.neg (by simpa using hx) (Ev.bind i1 (Ev.bind i2 (Ev.bind (indexN_ev _ (by omega) _ _ _) ?_)))
      generalize bld n (v + 1) (halves t).1 q = x at *
      generalize bld n (v + 1) (halves t).2 x.2 = y at *
      rcases findP_bd y.2 ⟨v, x.1, y.1⟩ 0 (by omega) with h | h
      · have hc : findP y.2 ⟨v, x.1, y.1⟩ 0 < 0 := by omega
        simp only [if_pos hc]
        refine Ev.pos (by omega) (Ev.at_ (Ev.now _) ?_)
        rw [wrap_id _ (by omega) (by omega)]
      · have hc : ¬ findP y.2 ⟨v, x.1, y.1⟩ 0 < 0 := by omega
        simp only [if_neg hc]
        refine Ev.at_ (Ev.now _) ?_
        rw [wrap_id _ (by omega) (by omega)]
theorem buildS_ev : ∀ (n : Nat) (v : Int) (t : List Bool) (q : List S75), t.length = 2 ^ n → 2 ^ n ≤ 1024 → 0 ≤ v → v + n ≤ 1000 → q.length + 2 ^ n ≤ 65536 → Ev (fun k => spec_l7B_build.f k v t q) (bld n v t q)
  | 0, v, t, q, ht, hp, hv, hn, hq => by
    refine Ev.step (fun k => spec_l7B_build.f.eq_2 ..) (Ev.pos (by rw [ht]; rfl) (Ev.now _))
  | n + 1, v, t, q, ht, hp, hv, hn, hq => by
    have hh := halves_pow t n ht
    have e : 2 ^ (n + 1) = 2 ^ n + 2 ^ n := by rw [Nat.pow_succ]; omega
    have hP : 0 < 2 ^ n := Nat.pow_pos (by decide)
    rw [e] at ht hp hq
    have b1 := bld_len n (v + 1) (halves t).1 q
    have b2 := bld_len n (v + 1) (halves t).2 (bld n (v + 1) (halves t).1 q).2
    have i1 := buildS_ev n (v + 1) (halves t).1 q hh.1 (by omega) (by omega) (by omega) (by omega)
    have i2 := buildS_ev n (v + 1) (halves t).2 (bld n (v + 1) (halves t).1 q).2 hh.2 (by omega) (by omega) (by omega) (by omega)
    generalize 2 ^ n = P at *
    refine Ev.step (fun k => spec_l7B_build.f.eq_2 ..) (Ev.neg (by omega) (Ev.bind (l7Half0_ev t (by omega)) (Ev.bind (l7Half1_ev t (by omega)) (Ev.bind (sameTable_ev _ _ (by omega) (by omega)) ?_))))
    rw [wrap_id (v + 1) (by omega) (by omega)]
    unfold bld
    by_cases hx : (halves t).1 = (halves t).2
    · rw [if_pos hx]; exact Ev.pos (decide_eq_true hx) i1
    · rw [if_neg hx]
      refine Ev.neg (by simpa using hx) (Ev.bind i1 (Ev.bind i2 (Ev.pos (by omega) (Ev.bind (lp_ev _ (by omega) _ _ _) ?_))))
      generalize bld n (v + 1) (halves t).1 q = x at *
      generalize bld n (v + 1) (halves t).2 x.2 = y at *
      rcases findP_bd y.2 ⟨v, x.1, y.1⟩ 0 (by omega) with h | h
      · rw [if_pos (show findP y.2 ⟨v, x.1, y.1⟩ 0 < 0 by omega), if_pos (show findP y.2 ⟨v, x.1, y.1⟩ 0 < 0 by omega)]
        exact Ev.pos (by omega) (Ev.now _)
      · rw [if_neg (show ¬ findP y.2 ⟨v, x.1, y.1⟩ 0 < 0 by omega), if_neg (show ¬ findP y.2 ⟨v, x.1, y.1⟩ 0 < 0 by omega)]
        exact Ev.neg (by omega) (Ev.now _)
theorem pow6 (v : Nat) (hv : v ≤ 6) : 2 ^ v ≤ 64 := Nat.le_trans (Nat.pow_le_pow_right (by decide) hv) (by decide)
theorem l7Of_ev (v : Nat) (hv : v ≤ 6) (t : List Bool) (ht : t.length = 2 ^ v) : Ev (fun k => spec_l7Of.f k (v : Int) t) ((v : Int), (bld v 1 t []).2, (bld v 1 t []).1) := by
  have h6 := pow6 v hv
  have hb := bld_len v 1 t []
  have hb2 : (bld v 1 t []).2.length < 1099511627776 := by rw [List.length_nil] at hb; omega
  unfold spec_l7Of.f
  exact Ev.bind (buildS_ev v 1 t [] ht (by omega) (by omega) (by omega) (by simp; omega)) (Ev.pos hb2 (Ev.now _))
theorem diagram_ev (v : Nat) (hv : v ≤ 6) (t : List Bool) (ht : t.length = 2 ^ v) : Ev (fun k => impl_diagram.f k (v : Int) t) ((v : Int), (bld v 1 t []).2, (bld v 1 t []).1) := by
  have h6 := pow6 v hv
  unfold impl_diagram.f
  exact Ev.bind (build_ev v 1 t [] ht (by omega) (by omega) (by omega) (by simp; omega)) (Ev.now _)
theorem heldDiagram_ev (a c : Int) (n : Nat) (m : Int) (hl : n ≤ 1048576) (hm : 0 ≤ m ∧ m ≤ 1048576) : Ev (fun k => laws_heldDiagram.f k a (mkNode m n) c m) (m + 3 * (n : Int)) := by
  unfold laws_heldDiagram.f
  exact Ev.bind (heldNodeS_ev n m (by omega) (by omega)) (Ev.neg (by omega) (Ev.now _))
theorem evAll {α : Type} {P : Nat → Nat → Option α} {β : Nat → α} : ∀ N : Nat, (∀ i, i < N → Ev (fun k => P k i) (β i)) → ∃ K, ∀ k, K ≤ k → ∀ i, i < N → P k i = some (β i)
  | 0, _ => ⟨0, fun _ _ i hi => absurd hi (Nat.not_lt_zero i)⟩
  | N + 1, h => by
    obtain ⟨K, hK⟩ := evAll N (fun i hi => h i (by omega))
    obtain ⟨K2, hK2⟩ := h N (by omega)
    refine ⟨max K K2, fun k hk i hi => ?_⟩
    by_cases e : i = N
    · rw [e]; exact hK2 k (by omega)
    · exact hK k (by omega) i (by omega)
theorem impl_ByClauses_ml (p : Int → Option Bool) (N : Nat) (hN : N ≤ 1048576) (β : Nat → Bool) (hp : ∀ i : Nat, i < N → p (i : Int) = some (β i)) : ∀ (d i : Nat) (out : List Bool) (k : Nat), i + d = N → d < k → out.length ≤ i → impl_ByClauses.ml k p (N : Int) out (i : Int) = some (out ++ (List.range' i d).map β)
  | 0, i, out, k, h, hk, ho => by
    obtain ⟨k, rfl⟩ : ∃ m, k = m + 1 := ⟨k - 1, by omega⟩
    unfold impl_ByClauses.ml; rw [if_neg (by omega)]; simp
  | d + 1, i, out, k, h, hk, ho => by
    obtain ⟨k, rfl⟩ : ∃ m, k = m + 1 := ⟨k - 1, by omega⟩
    unfold impl_ByClauses.ml
    rw [if_pos (by omega), hp i (by omega), Option.bind_some, if_pos (by omega), w1 i (by omega), impl_ByClauses_ml p N hN β hp d (i + 1) (out ++ [β i]) k (by omega) (by omega) (by simp; omega)]
    simp [List.range'_succ]
theorem impl_ByClauses_mapf (v : Nat) (hv : v ≤ 6) (P : Nat → Int → Option Bool) (β : Nat → Bool) (hP : ∀ i : Nat, i < 2 ^ v → Ev (fun k => P k (i : Int)) (β i)) : Ev (fun k => impl_ByClauses.mapf k (P k) (v : Int)) ((v : Int), (bld v 1 ((List.range (2 ^ v)).map β) []).2, (bld v 1 ((List.range (2 ^ v)).map β) []).1) := by
  have h6 := pow6 v hv
  unfold impl_ByClauses.mapf
  refine Ev.pos (by omega) ?_
  rw [shl_one v (by omega)]
  obtain ⟨K, hK⟩ := evAll (2 ^ v) hP
  have hml : Ev (fun k => impl_ByClauses.ml k (P k) ((2 ^ v : Nat) : Int) [] 0) ((List.range (2 ^ v)).map β) :=
    ⟨max K (2 ^ v + 1), fun k hk => by
      have h := impl_ByClauses_ml (P k) (2 ^ v) (by omega) β (hK k (by omega)) (2 ^ v) 0 [] k (by omega) (by omega) (by simp)
      rw [List.nil_append, ← List.range_eq_range'] at h
      exact h⟩
  exact Ev.bind hml (diagram_ev v hv _ (by simp))
theorem var_abs (n : Int) (h0 : -1000 ≤ n) (h1 : n ≤ 1000) : impl_variable.f n = some ((n.natAbs : Nat) : Int) := by
  unfold impl_variable.f
  have e : wrap64 (-n) = -n := wrap_id _ (by omega) (by omega)
  rw [e]
  by_cases h : n < -n
  · rw [if_pos h]; congr 1; omega
  · rw [if_neg h]; congr 1; omega
theorem impl_isClause_idx (p : Int → Option Bool) (l : List Int) (hl : l.length ≤ 1048576) (β : Int → Bool) (hp : ∀ x, x ∈ l → p x = some (β x)) : ∀ (d i : Nat), i + d = l.length → ∃ r, Ev (fun k => impl_isClause.idx k p l (i : Int)) r ∧ decide (r ≥ 0) = (l.drop i).any β
  | 0, i, h => ⟨-1, Ev.step (fun k => impl_isClause.idx.eq_2 ..) (Ev.neg (by omega) (Ev.now _)), by rw [List.drop_eq_nil_of_le (by omega)]; rfl⟩
  | d + 1, i, h => by
    have hi : i < l.length := by omega
    have hx := hp l[i] (List.getElem_mem hi)
    rw [List.drop_eq_getElem_cons hi, List.any_cons]
    by_cases hb : β l[i] = true
    · refine ⟨(i : Int), Ev.step (fun k => impl_isClause.idx.eq_2 ..) (Ev.pos (by omega) (Ev.pos (by omega) ?_)), by rw [hb, Bool.true_or]; exact decide_eq_true (by omega)⟩
      rw [rd_nat l i hi]; exact Ev.bindE hx (Ev.pos hb (Ev.now _))
    · obtain ⟨r, h1, h2⟩ := impl_isClause_idx p l hl β hp d (i + 1) (by omega)
      refine ⟨r, Ev.step (fun k => impl_isClause.idx.eq_2 ..) (Ev.pos (by omega) (Ev.pos (by omega) ?_)), by rw [Bool.eq_false_iff.mpr hb, Bool.false_or]; exact h2⟩
      rw [rd_nat l i hi, w1 i (by omega)]; exact Ev.bindE hx (Ev.neg hb h1)
theorem impl_isClause_any (p : Int → Option Bool) (l : List Int) (hl : l.length ≤ 1048576) (β : Int → Bool) (hp : ∀ x, x ∈ l → p x = some (β x)) : Ev (fun k => impl_isClause.any k p l) (l.any β) := by
  obtain ⟨r, h1, h2⟩ := impl_isClause_idx p l hl β hp l.length 0 (by omega)
  rw [List.drop_zero] at h2
  exact Ev.bind h1 (Ev.at_ (Ev.now _) h2)
theorem impl_holds_idx (p : Int → Option Bool) (l : List Int) (hl : l.length ≤ 1048576) (β : Int → Bool) (hp : ∀ x, x ∈ l → p x = some (β x)) : ∀ (d i : Nat), i + d = l.length → ∃ r, Ev (fun k => impl_holds.idx k p l (i : Int)) r ∧ decide (r ≥ 0) = (l.drop i).any β
  | 0, i, h => ⟨-1, Ev.step (fun k => impl_holds.idx.eq_2 ..) (Ev.neg (by omega) (Ev.now _)), by rw [List.drop_eq_nil_of_le (by omega)]; rfl⟩
  | d + 1, i, h => by
    have hi : i < l.length := by omega
    have hx := hp l[i] (List.getElem_mem hi)
    rw [List.drop_eq_getElem_cons hi, List.any_cons]
    by_cases hb : β l[i] = true
    · refine ⟨(i : Int), Ev.step (fun k => impl_holds.idx.eq_2 ..) (Ev.pos (by omega) (Ev.pos (by omega) ?_)), by rw [hb, Bool.true_or]; exact decide_eq_true (by omega)⟩
      rw [rd_nat l i hi]; exact Ev.bindE hx (Ev.pos hb (Ev.now _))
    · obtain ⟨r, h1, h2⟩ := impl_holds_idx p l hl β hp d (i + 1) (by omega)
      refine ⟨r, Ev.step (fun k => impl_holds.idx.eq_2 ..) (Ev.pos (by omega) (Ev.pos (by omega) ?_)), by rw [Bool.eq_false_iff.mpr hb, Bool.false_or]; exact h2⟩
      rw [rd_nat l i hi, w1 i (by omega)]; exact Ev.bindE hx (Ev.neg hb h1)
theorem impl_holds_any (p : Int → Option Bool) (l : List Int) (hl : l.length ≤ 1048576) (β : Int → Bool) (hp : ∀ x, x ∈ l → p x = some (β x)) : Ev (fun k => impl_holds.any k p l) (l.any β) := by
  obtain ⟨r, h1, h2⟩ := impl_holds_idx p l hl β hp l.length 0 (by omega)
  rw [List.drop_zero] at h2
  exact Ev.bind h1 (Ev.at_ (Ev.now _) h2)
def clF (v : Int) (c : List Int) : Nat → Nat → Bool
  | 0, _ => decide (c.length ≤ 12)
  | d + 1, i => (c.getD i 0 != 0 && In (c.getD i 0) (-v) v) && (!((c.take i).any (fun k => k == c.getD i 0 || k == -(c.getD i 0))) && clF v c d (i + 1))
theorem clF_both (v : Int) (hv : 0 ≤ v ∧ v ≤ 12) (c : List Int) (hl : c.length ≤ 1048576) : ∀ (d i : Nat), i + d = c.length → (∀ j (h : j < c.length), j < i → -12 ≤ c[j] ∧ c[j] ≤ 12) → Ev (fun k => impl_isClause.l0 k c v (i : Int)) (clF v c d i) ∧ Ev (fun k => spec_l4Clause.l0 k v c c (c.length : Int) (i : Int)) (clF v c d i)
  | 0, i, h, hj => ⟨Ev.step (fun k => impl_isClause.l0.eq_2 ..) (Ev.neg (by omega) (Ev.at_ (Ev.now _) (decide_eq_decide.2 (by omega)))), Ev.step (fun k => spec_l4Clause.l0.eq_2 ..) (Ev.neg (by omega) (Ev.at_ (Ev.now _) (decide_eq_decide.2 (by omega))))⟩
  | d + 1, i, h, hj => by
    have hi : i < c.length := by omega
    have eg : c.getD i 0 = c[i] := by simp [hi]
    have hwv : wrap64 (-v) = -v := wrap_id _ (by omega) (by omega)
    unfold clF
    rw [eg]
    by_cases h0 : c[i] = 0
    · have e : (c[i] != 0) = false := by simp [h0]
      rw [e, Bool.false_and, Bool.false_and]
      refine ⟨Ev.step (fun k => impl_isClause.l0.eq_2 ..) (Ev.pos (by omega) (Ev.pos (by omega) ?_)), Ev.step (fun k => spec_l4Clause.l0.eq_2 ..) (Ev.pos (by omega) (Ev.pos (by omega) (Ev.pos (by omega) ?_)))⟩
      · rw [rd_nat c i hi]
        exact Ev.bindE (show impl_isLiteral.f c[i] v = some false by unfold impl_isLiteral.f; rw [if_pos h0]) (Ev.neg (by simp) (Ev.now _))
      · rw [rd_nat c i hi]; exact Ev.pos h0 (Ev.now _)
    · have e : (c[i] != 0) = true := by simp [h0]
      rw [e, Bool.true_and]
      have elit : impl_isLiteral.f c[i] v = some (In c[i] (-v) v) := by unfold impl_isLiteral.f; rw [if_neg h0, hwv]; first | exact impl_in_eq .. | (rw [impl_in_eq]; rfl)
      by_cases h1 : In c[i] (-v) v = true
      · have h1' := In_true.1 h1
        rw [h1, Bool.true_and]
        rw [h1] at elit
        have ih := clF_both v hv c hl d (i + 1) (by omega) (fun j hjl hji => by
          by_cases e : j = i
          · subst e; omega
          · exact hj j hjl (by omega))
        have hmem : ∀ x, x ∈ c.take i → -12 ≤ x ∧ x ≤ 12 := fun x hx => by
          obtain ⟨j, hjl, e⟩ := List.getElem_of_mem hx
          rw [List.getElem_take] at e
          rw [List.length_take] at hjl
          rw [← e]; exact hj j (by omega) (by omega)
        have ha := impl_isClause_any (impl_isClause.np c[i]) (c.take i) (by rw [List.length_take]; omega) (fun k => k == c[i] || k == -c[i]) (fun x hx => by
          have := hmem x hx
          unfold impl_isClause.np
          rw [var_abs x (by omega) (by omega), Option.bind_some, var_abs c[i] (by omega) (by omega), Option.bind_some]
          congr 1
          rw [Bool.eq_iff_iff]
          simp only [beq_iff_eq, Bool.or_eq_true]
          omega)
        have hs1 := l1Has_ev (c.take i) c[i] (by rw [List.length_take]; omega)
        have hs2 := l1Has_ev (c.take i) (-c[i]) (by rw [List.length_take]; omega)
        have hwn : wrap64 (-c[i]) = -c[i] := wrap_id _ (by omega) (by omega)
        have esp : ((c.take i).any (fun k => k == c[i] || k == -c[i])) = (decide (c[i] ∈ c.take i) || decide (-c[i] ∈ c.take i)) := by
          rw [Bool.eq_iff_iff]
          simp only [List.any_eq_true, Bool.or_eq_true, beq_iff_eq, decide_eq_true_eq]
          constructor
          · rintro ⟨x, hx, rfl | rfl⟩
            · exact Or.inl hx
            · exact Or.inr hx
          · rintro (hx | hx)
            · exact ⟨_, hx, Or.inl rfl⟩
            · exact ⟨_, hx, Or.inr rfl⟩
        refine ⟨Ev.step (fun k => impl_isClause.l0.eq_2 ..) (Ev.pos (by omega) (Ev.pos (by omega) ?_)), Ev.step (fun k => spec_l4Clause.l0.eq_2 ..) (Ev.pos (by omega) (Ev.pos (by omega) (Ev.pos (by omega) ?_)))⟩
        · rw [rd_nat c i hi, Int.toNat_natCast, w1 i (by omega)]
          refine Ev.bindE elit (Ev.pos rfl (Ev.bind ha ?_))
          by_cases hb : ((c.take i).any (fun k => k == c[i] || k == -c[i])) = true
          · rw [hb]; exact Ev.pos rfl (Ev.now _)
          · rw [Bool.eq_false_iff.mpr hb]; exact Ev.neg (by simp) ih.1
        · rw [rd_nat c i hi, Int.toNat_natCast, w1 i (by omega), hwv, hwn, esp]
          refine Ev.neg h0 (Ev.bindE (spec_l1In_eq ..) (Ev.pos h1 (Ev.pos (by omega) (Ev.bind hs1 ?_))))
          by_cases hb : c[i] ∈ c.take i
          · rw [decide_eq_true hb]; exact Ev.pos rfl (Ev.now _)
          · rw [decide_eq_false hb]
            refine Ev.neg (by simp) (Ev.bind hs2 ?_)
            by_cases hb2 : -c[i] ∈ c.take i
            · rw [decide_eq_true hb2]; exact Ev.pos rfl (Ev.now _)
            · rw [decide_eq_false hb2]; exact Ev.neg (by simp) ih.2
      · rw [Bool.eq_false_iff.mpr h1, Bool.false_and]
        rw [Bool.eq_false_iff.mpr h1] at elit
        refine ⟨Ev.step (fun k => impl_isClause.l0.eq_2 ..) (Ev.pos (by omega) (Ev.pos (by omega) ?_)), Ev.step (fun k => spec_l4Clause.l0.eq_2 ..) (Ev.pos (by omega) (Ev.pos (by omega) (Ev.pos (by omega) ?_)))⟩
        · rw [rd_nat c i hi]; exact Ev.bindE elit (Ev.neg (by simp) (Ev.now _))
        · rw [rd_nat c i hi, hwv]; exact Ev.neg h0 (Ev.bindE (spec_l1In_eq ..) (Ev.neg h1 (Ev.now _)))
def clB (v : Int) (c : List Int) : Bool := clF v c c.length 0
theorem clF_lits (v : Int) (c : List Int) : ∀ (d i : Nat), i + d = c.length → clF v c d i = true → c.length ≤ 12 ∧ ∀ j (h : j < c.length), i ≤ j → c[j] ≠ 0 ∧ -v ≤ c[j] ∧ c[j] ≤ v
  | 0, i, h, hc => ⟨of_decide_eq_true hc, fun j hj hij => by omega⟩
  | d + 1, i, h, hc => by
    unfold clF at hc
    simp only [Bool.and_eq_true, bne_iff_ne, In_true] at hc
    have ih := clF_lits v c d (i + 1) (by omega) hc.2.2
    have eg : c.getD i 0 = c[i]'(by omega) := by simp [show i < c.length by omega]
    rw [eg] at hc
    refine ⟨ih.1, fun j hj hij => ?_⟩
    by_cases e : j = i
    · subst e; exact ⟨hc.1.1, hc.1.2⟩
    · exact ih.2 j hj (by omega)
theorem clB_lits {v : Int} {c : List Int} (h : clB v c = true) : c.length ≤ 12 ∧ ∀ x, x ∈ c → x ≠ 0 ∧ -v ≤ x ∧ x ≤ v := by
  obtain ⟨h1, h2⟩ := clF_lits v c c.length 0 (by omega) h
  exact ⟨h1, fun x hx => by obtain ⟨j, hj, e⟩ := List.getElem_of_mem hx; rw [← e]; exact h2 j hj (by omega)⟩
def GoodC (v : Int) (l : List (List Int)) : Bool := In v 0 12 && (decide (l.length ≤ 60) && l.all (clB v))
theorem are_idx (p : List Int → Option Bool) (l : List (List Int)) (hl : l.length ≤ 1048576) (β : List Int → Bool) (hp : ∀ x, x ∈ l → p x = some (β x)) : ∀ (d i k : Nat), i + d = l.length → d < k → ∃ r, impl_areClauses.idx k p l (i : Int) = some r ∧ decide (r ≥ 0) = (l.drop i).any β
  | 0, i, k, h, hk => by
    obtain ⟨k, rfl⟩ : ∃ m, k = m + 1 := ⟨k - 1, by omega⟩
    exact ⟨-1, by unfold impl_areClauses.idx; rw [if_neg (by omega)], by rw [List.drop_eq_nil_of_le (by omega)]; rfl⟩
  | d + 1, i, k, h, hk => by
    obtain ⟨k, rfl⟩ : ∃ m, k = m + 1 := ⟨k - 1, by omega⟩
    have hi : i < l.length := by omega
    have hx := hp l[i] (List.getElem_mem hi)
    rw [List.drop_eq_getElem_cons hi, List.any_cons]
    unfold impl_areClauses.idx
    rw [if_pos (by omega), if_pos (by omega), rdL_nat l i hi, hx, Option.bind_some, w1 i (by omega)]
    by_cases hb : β l[i] = true
    · rw [if_pos hb]; exact ⟨_, rfl, by rw [hb, Bool.true_or]; exact decide_eq_true (by omega)⟩
    · rw [if_neg hb, Bool.eq_false_iff.mpr hb, Bool.false_or]
      exact are_idx p l hl β hp d (i + 1) k (by omega) (by omega)
theorem evAllL {α : Type} {P : Nat → α → Option Bool} {β : α → Bool} : ∀ l : List α, (∀ x, x ∈ l → Ev (fun k => P k x) (β x)) → ∃ K, ∀ k, K ≤ k → ∀ x, x ∈ l → P k x = some (β x)
  | [], _ => ⟨0, fun _ _ x hx => by simp at hx⟩
  | a :: l, h => by
    obtain ⟨K, hK⟩ := evAllL l (fun x hx => h x (List.mem_cons_of_mem _ hx))
    obtain ⟨K2, hK2⟩ := h a (List.mem_cons_self ..)
    refine ⟨max K K2, fun k hk x hx => ?_⟩
    rcases List.mem_cons.1 hx with rfl | hx
    · exact hK2 k (by omega)
    · exact hK k (by omega) x hx
theorem isClause_ev (v : Int) (hv : 0 ≤ v ∧ v ≤ 12) (c : List Int) (hl : c.length ≤ 1048576) : Ev (fun k => impl_isClause.f k c v) (clB v c) := (clF_both v hv c hl c.length 0 (by omega) (fun j hj h => by omega)).1
theorem l4Clause_ev (v : Int) (hv : 0 ≤ v ∧ v ≤ 12) (c : List Int) (hl : c.length ≤ 1048576) : Ev (fun k => spec_l4Clause.f k v c) (clB v c) := (clF_both v hv c hl c.length 0 (by omega) (fun j hj h => by omega)).2
def Rows (l : List (List Int)) : Prop := l.length ≤ 1048576 ∧ ∀ c, c ∈ l → c.length ≤ 1048576
theorem goodCI (v : Int) (l : List (List Int)) (hl : Rows l) : Ev (fun k => impl_GoodClauses.f k v l) (GoodC v l) := by
  unfold impl_GoodClauses.f GoodC
  refine Ev.bindE (impl_in_eq ..) ?_
  by_cases h1 : In v 0 12 = true
  · have h1' := In_true.1 h1
    rw [h1, Bool.true_and]
    refine Ev.pos rfl ?_
    by_cases h2 : l.length ≤ 60
    · rw [decide_eq_true h2, Bool.true_and]
      refine Ev.pos (by omega) (Ev.bind (a := l.all (clB v)) ?_ (Ev.now _))
      obtain ⟨K, hK⟩ := evAllL (P := fun k c => impl_areClauses.np k v c) (β := fun c => !clB v c) l (fun c hc => Ev.bind (isClause_ev v h1' c (hl.2 c hc)) (Ev.now _))
      refine ⟨max K (l.length + 1), fun k hk => ?_⟩
      obtain ⟨r, e1, e2⟩ := are_idx (impl_areClauses.np k v) l hl.1 (fun c => !clB v c) (hK k (by omega)) l.length 0 k (by omega) (by omega)
      rw [List.drop_zero] at e2
      unfold impl_areClauses.f impl_areClauses.any
      rw [show ((0 : Nat) : Int) = 0 from rfl] at e1
      show ((impl_areClauses.idx k (impl_areClauses.np k v) l 0).bind fun t => some (decide (t ≥ 0))).bind (fun t => some !t) = _
      rw [e1, Option.bind_some, Option.bind_some, e2]
      congr 1
      rw [List.not_any_eq_all_not]
      congr 1
      funext c
      simp
    · rw [decide_eq_false h2, Bool.false_and]; exact Ev.neg (by omega) (Ev.now _)
  · rw [Bool.eq_false_iff.mpr h1, Bool.false_and]; exact Ev.neg (by simp) (Ev.now _)
theorem goodS_rows (v : Int) (hv : 0 ≤ v ∧ v ≤ 12) (l : List (List Int)) (hl : Rows l) : ∀ (d i : Nat), i + d = l.length → Ev (fun k => spec_l4Good.l0 k v l (l.length : Int) (i : Int)) ((l.drop i).all (clB v))
  | 0, i, h => by rw [List.drop_eq_nil_of_le (by omega)]; exact Ev.step (fun k => spec_l4Good.l0.eq_2 ..) (Ev.neg (by omega) (Ev.now _))
  | d + 1, i, h => by
    have hi : i < l.length := by omega
    have h0 := hl.1
    rw [List.drop_eq_getElem_cons hi, List.all_cons]
    refine Ev.step (fun k => spec_l4Good.l0.eq_2 ..) (Ev.pos (by omega) (Ev.pos (by omega) (Ev.pos (by omega) ?_)))
    rw [rdL_nat l i hi, w1 i (by omega)]
    refine Ev.bind (l4Clause_ev v hv l[i] (hl.2 _ (List.getElem_mem hi))) ?_
    by_cases hb : clB v l[i] = true
    · rw [hb, Bool.true_and]; exact Ev.pos rfl (goodS_rows v hv l hl d (i + 1) (by omega))
    · rw [Bool.eq_false_iff.mpr hb, Bool.false_and]; exact Ev.neg (by simp) (Ev.now _)
theorem goodCS (v : Int) (l : List (List Int)) (hl : Rows l) : Ev (fun k => spec_GoodClauses.f k v l) (GoodC v l) := by
  have h0 := hl.1
  have bad : ∀ b : Bool, b = false → Ev (fun k => spec_l4Good.j0 k v l true) b := fun b hb => by
    rw [hb]; exact Ev.step (fun k => spec_l4Good.j0.eq_2 ..) (Ev.pos rfl (Ev.now _))
  unfold spec_GoodClauses.f GoodC
  refine Ev.bind (a := In v 0 12 && (decide (l.length ≤ 60) && l.all (clB v))) ?_ (Ev.now _)
  unfold spec_l4Good.f
  refine Ev.bindE (spec_l1In_eq ..) ?_
  by_cases h1 : In v 0 12 = true
  · have h1' := In_true.1 h1
    refine Ev.pos h1 ?_
    rw [h1, Bool.true_and]
    by_cases h2 : l.length ≤ 60
    · rw [decide_eq_true h2, Bool.true_and, show decide ((l.length : Int) > 60) = false from decide_eq_false (by omega)]
      have := goodS_rows v h1' l hl l.length 0 (by omega)
      rw [List.drop_zero] at this
      exact Ev.step (fun k => spec_l4Good.j0.eq_2 ..) (Ev.neg (by simp) this)
    · rw [decide_eq_false h2, show decide ((l.length : Int) > 60) = true from decide_eq_true (by omega)]
      exact bad _ (Bool.false_and ..)
  · refine Ev.neg h1 (bad _ ?_)
    rw [Bool.eq_false_iff.mpr h1]; rfl
def litB (m : List Bool) (x : Int) : Bool := m.getD (x.natAbs - 1) false == decide (x > 0)
def holdsB (m : List Bool) (l : List (List Int)) : Bool := l.all (fun c => c.any (litB m))
def LitsIn (v : Nat) (l : List (List Int)) : Prop := l.length ≤ 60 ∧ ∀ c, c ∈ l → c.length ≤ 12 ∧ ∀ x, x ∈ c → x ≠ 0 ∧ -(v : Int) ≤ x ∧ x ≤ (v : Int)
theorem litI (v : Nat) (hv : v ≤ 12) (m : List Bool) (hm : m.length = v) (x : Int) (h0 : x ≠ 0) (h1 : -(v : Int) ≤ x) (h2 : x ≤ (v : Int)) : impl_holds.np m x = some (litB m x) := by
  unfold impl_holds.np
  rw [var_abs x (by omega) (by omega), Option.bind_some, wrap_id _ (by omega) (by omega), if_pos (by omega), if_pos (by omega)]
  obtain ⟨j, hj⟩ : ∃ j : Nat, (x.natAbs : Int) - 1 = (j : Int) := ⟨x.natAbs - 1, by omega⟩
  rw [hj]
  unfold litB rdOf
  rw [Int.toNat_natCast, show x.natAbs - 1 = j by omega]
theorem holdsI_loop (v : Nat) (hv : v ≤ 12) (m : List Bool) (hm : m.length = v) (l : List (List Int)) (hl : LitsIn v l) : ∀ (d i : Nat), i + d = l.length → Ev (fun k => impl_holds.l0 k l m (i : Int)) (holdsB m (l.drop i))
  | 0, i, h => by rw [List.drop_eq_nil_of_le (by omega)]; exact Ev.step (fun k => impl_holds.l0.eq_2 ..) (Ev.neg (by omega) (Ev.now _))
  | d + 1, i, h => by
    have hi : i < l.length := by omega
    have h60 := hl.1
    have hr := hl.2 l[i] (List.getElem_mem hi)
    have ha := impl_holds_any (impl_holds.np m) l[i] (by omega) (litB m) (fun x hx => litI v hv m hm x (hr.2 x hx).1 (hr.2 x hx).2.1 (hr.2 x hx).2.2)
    rw [List.drop_eq_getElem_cons hi]
    unfold holdsB
    rw [List.all_cons]
    refine Ev.step (fun k => impl_holds.l0.eq_2 ..) (Ev.pos (by omega) (Ev.pos (by omega) ?_))
    rw [rdL_nat l i hi, w1 i (by omega)]
    refine Ev.bind ha ?_
    by_cases hb : l[i].any (litB m) = true
    · rw [hb, Bool.true_and]; exact Ev.pos rfl (holdsI_loop v hv m hm l hl d (i + 1) (by omega))
    · rw [Bool.eq_false_iff.mpr hb, Bool.false_and]; exact Ev.neg (by simp) (Ev.now _)
theorem holdsI (v : Nat) (hv : v ≤ 12) (m : List Bool) (hm : m.length = v) (l : List (List Int)) (hl : LitsIn v l) : Ev (fun k => impl_holds.f k l m) (holdsB m l) := by
  have := holdsI_loop v hv m hm l hl l.length 0 (by omega)
  rw [List.drop_zero] at this
  exact this
theorem GoodC_lits {v : Nat} {l : List (List Int)} (h : GoodC (v : Int) l = true) : v ≤ 12 ∧ LitsIn v l := by
  unfold GoodC at h
  simp only [Bool.and_eq_true, In_true, decide_eq_true_eq, List.all_eq_true] at h
  exact ⟨by omega, h.2.1, fun c hc => clB_lits (h.2.2 c hc)⟩
theorem litS (v : Nat) (hv : v ≤ 12) (m : List Bool) (hm : m.length = v) (x : Int) (h0 : x ≠ 0) (h1 : -(v : Int) ≤ x) (h2 : x ≤ (v : Int)) : spec_l4Lit.f m x = some (litB m x) := by
  unfold spec_l4Lit.f
  by_cases h : x < 0
  · rw [if_pos h, wrap_id (-x) (by omega) (by omega), wrap_id _ (by omega) (by omega), if_pos (by omega), if_pos (by omega)]
    obtain ⟨j, hj⟩ : ∃ j : Nat, -x - 1 = (j : Int) := ⟨x.natAbs - 1, by omega⟩
    rw [hj]
    unfold litB rdOf
    rw [Int.toNat_natCast, show x.natAbs - 1 = j by omega, decide_eq_false (show ¬ x > 0 by omega)]
    cases m.getD j false <;> rfl
  · rw [if_neg h, wrap_id (x - 1) (by omega) (by omega), if_pos (by omega), if_pos (by omega)]
    obtain ⟨j, hj⟩ : ∃ j : Nat, x - 1 = (j : Int) := ⟨x.natAbs - 1, by omega⟩
    rw [hj]
    unfold litB rdOf
    rw [Int.toNat_natCast, show x.natAbs - 1 = j by omega, decide_eq_true (show x > 0 by omega)]
    cases m.getD j false <;> rfl
theorem holdsS_row (v : Nat) (hv : v ≤ 12) (m : List Bool) (hm : m.length = v) (l : List (List Int)) (row : List Int) (hr : row.length ≤ 12) (hx : ∀ x, x ∈ row → x ≠ 0 ∧ -(v : Int) ≤ x ∧ x ≤ (v : Int)) (z : Int) (R : Bool) (cont : Ev (fun k => spec_l4Holds.l0 k m l (l.length : Int) (wrap64 (z + 1))) R) : ∀ (d j : Nat) (b : Bool), j + d = row.length → Ev (fun k => spec_l4Holds.l1 k m b l (l.length : Int) z row (row.length : Int) (j : Int)) (if (b || (row.drop j).any (litB m)) = true then R else false)
  | 0, j, b, h => by
    rw [List.drop_eq_nil_of_le (by omega)]
    refine Ev.step (fun k => spec_l4Holds.l1.eq_2 ..) (Ev.neg (by omega) ?_)
    cases b
    · exact Ev.neg (by simp) (Ev.now _)
    · exact Ev.pos rfl cont
  | d + 1, j, b, h => by
    have hj : j < row.length := by omega
    have hl := hx row[j] (List.getElem_mem hj)
    rw [List.drop_eq_getElem_cons hj, List.any_cons]
    refine Ev.step (fun k => spec_l4Holds.l1.eq_2 ..) (Ev.pos (by omega) (Ev.pos (by omega) (Ev.pos (by omega) ?_)))
    rw [rd_nat row j hj, w1 j (by omega)]
    cases b
    · rw [Bool.false_or]
      refine Ev.neg (by simp) (Ev.bindE (litS v hv m hm row[j] hl.1 hl.2.1 hl.2.2) ?_)
      exact holdsS_row v hv m hm l row hr hx z R cont d (j + 1) _ (by omega)
    · have := holdsS_row v hv m hm l row hr hx z R cont d (j + 1) true (by omega)
      rw [Bool.true_or] at this ⊢
      exact Ev.pos rfl this
theorem holdsS_loop (v : Nat) (hv : v ≤ 12) (m : List Bool) (hm : m.length = v) (l : List (List Int)) (hl : LitsIn v l) : ∀ (d i : Nat), i + d = l.length → Ev (fun k => spec_l4Holds.l0 k m l (l.length : Int) (i : Int)) (holdsB m (l.drop i))
  | 0, i, h => by rw [List.drop_eq_nil_of_le (by omega)]; exact Ev.step (fun k => spec_l4Holds.l0.eq_2 ..) (Ev.neg (by omega) (Ev.now _))
  | d + 1, i, h => by
    have hi : i < l.length := by omega
    have h60 := hl.1
    have hr := hl.2 l[i] (List.getElem_mem hi)
    have ih := holdsS_loop v hv m hm l hl d (i + 1) (by omega)
    have hrow := holdsS_row v hv m hm l l[i] hr.1 hr.2 (i : Int) (holdsB m (l.drop (i + 1))) (by rw [w1 i (by omega)]; exact ih) l[i].length 0 false (by omega)
    rw [List.drop_zero, Bool.false_or] at hrow
    rw [List.drop_eq_getElem_cons hi]
    refine Ev.step (fun k => spec_l4Holds.l0.eq_2 ..) (Ev.pos (by omega) (Ev.pos (by omega) (Ev.pos (by omega) ?_)))
    rw [rdL_nat l i hi]
    refine Ev.at_ hrow ?_
    unfold holdsB
    rw [List.all_cons]
    cases l[i].any (litB m) <;> simp
theorem holdsS (v : Nat) (hv : v ≤ 12) (m : List Bool) (hm : m.length = v) (l : List (List Int)) (hl : LitsIn v l) : Ev (fun k => spec_l4Holds.f k l m) (holdsB m l) := by
  have := holdsS_loop v hv m hm l hl l.length 0 (by omega)
  rw [List.drop_zero] at this
  exact this
def TC (v : Nat) (l : List (List Int)) : List Bool := (List.range (2 ^ v)).map (fun (i : Nat) => holdsB (modelM v (i : Int)) l)
theorem TC_len (v : Nat) (l : List (List Int)) : (TC v l).length = 2 ^ v := by simp [TC]
theorem byI_bad (v : Int) (l : List (List Int)) (hl : Rows l) (h : ¬ (GoodC v l = true ∧ v ≤ 6)) : Ev (fun k => impl_ByClauses.f k v l) (0, [], 0, false) := by
  unfold impl_ByClauses.f
  refine Ev.bind (goodCI v l hl) ?_
  by_cases hg : GoodC v l = true
  · exact Ev.pos hg (Ev.pos (by have : ¬ v ≤ 6 := fun q => h ⟨hg, q⟩; omega) (Ev.now _))
  · exact Ev.neg hg (Ev.now _)
theorem byI_good (v : Nat) (hv : v ≤ 6) (l : List (List Int)) (hl : Rows l) (hg : GoodC (v : Int) l = true) : Ev (fun k => impl_ByClauses.f k (v : Int) l) ((v : Int), (bld v 1 (TC v l) []).2, (bld v 1 (TC v l) []).1, true) := by
  obtain ⟨_, hlit⟩ := GoodC_lits hg
  have hm := impl_ByClauses_mapf v hv (fun k => impl_ByClauses.pr k l (v : Int)) (fun i => holdsB (modelM v (i : Int)) l) (fun i hi => by
    unfold impl_ByClauses.pr
    exact Ev.bind (impl_model_ev v (by omega) (i : Int)) (holdsI v (by omega) _ (modelM_len v _) l hlit))
  unfold impl_ByClauses.f
  exact Ev.bind (goodCI (v : Int) l hl) (Ev.pos hg (Ev.neg (by omega) (Ev.bind hm (Ev.now _))))
theorem byS_loop (v : Nat) (hv : v ≤ 6) (l : List (List Int)) (hlit : LitsIn v l) : ∀ (d i : Nat) (acc : List Bool), acc.length ≤ i → i + d = 2 ^ v → acc ++ (List.range' i d).map (fun (i : Nat) => holdsB (modelM v (i : Int)) l) = TC v l → Ev (fun k => spec_ByClauses.l0 k (v : Int) l acc (i : Int)) ((v : Int), (bld v 1 (TC v l) []).2, (bld v 1 (TC v l) []).1, true)
  | 0, i, acc, ha, h, e => by
    have e' : acc = TC v l := by rw [← e]; simp
    rw [e']
    refine Ev.step (fun k => spec_ByClauses.l0.eq_2 ..) ?_
    rw [u64_nat v (by omega), shl_one v (by omega)]
    exact Ev.pos (by omega) (Ev.neg (by omega) (Ev.bind (l7Of_ev v hv _ (TC_len v l)) (Ev.now _)))
  | d + 1, i, acc, ha, h, e => by
    have h6 := pow6 v hv
    refine Ev.step (fun k => spec_ByClauses.l0.eq_2 ..) ?_
    rw [u64_nat v (by omega), shl_one v (by omega)]
    refine Ev.pos (by omega) (Ev.pos (by omega) (Ev.bind (spec_l4Model_ev v (by omega) (i : Int)) (Ev.bind (holdsS v (by omega) _ (modelM_len v _) l hlit) (Ev.pos (by omega) ?_))))
    rw [w1 i (by omega)]
    exact byS_loop v hv l hlit d (i + 1) _ (by simp; omega) (by omega) (by rw [← e, List.range'_succ]; simp)
theorem byS_good (v : Nat) (hv : v ≤ 6) (l : List (List Int)) (hl : Rows l) (hg : GoodC (v : Int) l = true) : Ev (fun k => spec_ByClauses.f k (v : Int) l) ((v : Int), (bld v 1 (TC v l) []).2, (bld v 1 (TC v l) []).1, true) := by
  obtain ⟨_, hlit⟩ := GoodC_lits hg
  have h6 := pow6 v hv
  unfold spec_ByClauses.f
  refine Ev.bind (goodCS (v : Int) l hl) (Ev.pos hg ?_)
  rw [decide_eq_false (show ¬ (v : Int) > 6 by omega)]
  exact Ev.step (fun k => spec_ByClauses.j0.eq_2 ..) (Ev.neg (by simp) (byS_loop v hv l hlit (2 ^ v) 0 [] (by simp) (by omega) (by rw [List.nil_append, ← List.range_eq_range']; rfl)))
theorem byS_bad (v : Int) (l : List (List Int)) (hl : Rows l) (h : ¬ (GoodC v l = true ∧ v ≤ 6)) : Ev (fun k => spec_ByClauses.f k v l) (0, [], 0, false) := by
  have bad : Ev (fun k => spec_ByClauses.j0 k v l true) (0, [], 0, false) := Ev.step (fun k => spec_ByClauses.j0.eq_2 ..) (Ev.pos rfl (Ev.now _))
  unfold spec_ByClauses.f
  refine Ev.bind (goodCS v l hl) ?_
  by_cases hg : GoodC v l = true
  · refine Ev.pos hg ?_
    rw [decide_eq_true (show v > 6 by have : ¬ v ≤ 6 := fun q => h ⟨hg, q⟩; omega)]
    exact bad
  · exact Ev.neg hg bad
theorem szIntS_ok (l : List Int) (a : Int) (h : (l.length : Int) ≤ a) (ha : a ≤ 1048576) : laws_szIntS.f l a = some (a - l.length) := by
  unfold laws_szIntS.f; rw [wrap_id _ (by omega) (by omega), if_neg (by omega)]
theorem szIntS_big (l : List Int) (a : Int) (h : a < (l.length : Int)) (ha : a ≤ 1048576) (h0 : 0 ≤ a) (hl : l.length ≤ maxLen) : laws_szIntS.f l a = some (-1) := by
  unfold maxLen at hl; unfold laws_szIntS.f; rw [wrap_id _ (by omega) (by omega), if_pos (by omega)]
theorem szIntSS_loop (l : List (List Int)) (hl : l.length ≤ 1048576) (hr : ∀ c, c ∈ l → c.length ≤ maxLen) : ∀ (d i : Nat) (a : Int), i + d = l.length → 0 ≤ a → a ≤ 1048576 → ∃ s, Ev (fun k => laws_szIntSS.l0 k l a (i : Int)) s ∧ (0 ≤ s → (totSS (l.drop i) : Int) ≤ a)
  | 0, i, a, hi, h0, h1 => ⟨a, Ev.step (fun k => laws_szIntSS.l0.eq_2 ..) (Ev.neg (by omega) (Ev.now _)), fun _ => by rw [List.drop_eq_nil_of_le (by omega)]; simpa [totSS] using h0⟩
  | d + 1, i, a, hi, h0, h1 => by
    have h : i < l.length := by omega
    have hc := hr l[i] (List.getElem_mem h)
    rw [List.drop_eq_getElem_cons h]
    have ht : totSS (l[i] :: l.drop (i + 1)) = l[i].length + totSS (l.drop (i + 1)) := rfl
    by_cases e : (l[i].length : Int) ≤ a
    · obtain ⟨s, h2, h3⟩ := szIntSS_loop l hl hr d (i + 1) (a - l[i].length) (by omega) (by omega) (by omega)
      refine ⟨s, Ev.step (fun k => laws_szIntSS.l0.eq_2 ..) (Ev.pos (by omega) (Ev.pos (by omega) ?_)), fun hs => by have := h3 hs; omega⟩
      rw [rdL_nat l i h, w1 i (by omega)]
      exact Ev.bindE (szIntS_ok _ _ e h1) (Ev.neg (by omega) h2)
    · refine ⟨-1, Ev.step (fun k => laws_szIntSS.l0.eq_2 ..) (Ev.pos (by omega) (Ev.pos (by omega) ?_)), fun hs => absurd hs (by decide)⟩
      rw [rdL_nat l i h]
      exact Ev.bindE (szIntS_big _ _ (by omega) h1 h0 hc) (Ev.pos (by omega) (Ev.now _))
theorem szIntSS_ev (l : List (List Int)) (hl : l.length ≤ maxLen) (hr : ∀ c, c ∈ l → c.length ≤ maxLen) : ∃ s, Ev (fun k => laws_szIntSS.f k l 1048576) s ∧ (0 ≤ s → l.length ≤ 1048576 ∧ totSS l ≤ 1048576) := by
  unfold laws_szIntSS.f
  by_cases e : l.length ≤ 1048576
  · obtain ⟨s, h2, h3⟩ := szIntSS_loop l e hr l.length 0 (1048576 - (l.length : Int)) (by omega) (by omega) (by omega)
    rw [List.drop_zero] at h3
    rw [wrap_id _ (by omega) (by omega)]
    exact ⟨s, Ev.neg (by omega) h2, fun hs => by have := h3 hs; omega⟩
  · unfold maxLen at hl
    rw [wrap_id _ (by omega) (by omega)]
    exact ⟨-1, Ev.pos (by omega) (Ev.now _), fun hs => absurd hs (by decide)⟩
theorem mem_tot : ∀ (l : List (List Int)) (c : List Int), c ∈ l → c.length ≤ totSS l
  | r :: rs, c, h => by
    unfold totSS
    rcases List.mem_cons.1 h with rfl | h
    · omega
    · have := mem_tot rs c h; omega
theorem toIntSS_loop (l : List (List Int)) (hl : l.length ≤ 1048576) (hr : ∀ c, c ∈ l → c.length ≤ 1048576) : ∀ (d i : Nat) (acc : List (List Int)), i + d = l.length → acc.length = l.length → acc.take i = l.take i → Ev (fun k => laws_toIntSS.l0 k l acc (i : Int)) l
  | 0, i, acc, hi, ha, ht => by
    refine Ev.step (fun k => laws_toIntSS.l0.eq_2 ..) ?_
    refine Ev.neg (by omega) ?_
    rw [List.take_of_length_le (by omega), List.take_of_length_le (by omega)] at ht
    rw [ht]; exact Ev.now _
  | d + 1, i, acc, hi, ha, ht => by
    have h : i < l.length := by omega
    refine Ev.step (fun k => laws_toIntSS.l0.eq_2 ..) (Ev.pos (by omega) (Ev.pos (by omega) ?_))
    rw [rdL_nat l i h, w1 i (by omega), Int.toNat_natCast]
    refine Ev.bind (toIntS_ev _ (hr _ (List.getElem_mem h))) (Ev.pos (by omega) ?_)
    refine toIntSS_loop l hl hr d (i + 1) _ (by omega) (by simpa using ha) ?_
    rw [set_take _ _ _ (by omega), ht, List.take_succ_eq_append_getElem h]
theorem toIntSS_ev (l : List (List Int)) (hl : l.length ≤ 1048576) (hr : ∀ c, c ∈ l → c.length ≤ 1048576) : Ev (fun k => laws_toIntSS.f k l) l := by
  unfold laws_toIntSS.f
  refine Ev.pos (by omega) (Ev.pos (by omega) ?_)
  exact toIntSS_loop l hl hr l.length 0 _ (by omega) (by simp) (by simp)
theorem byClauses_both (a : Int) (l : List (List Int)) (hl : Rows l) : Both (fun r => r.2.1.length ≤ 1048576) (fun k => spec_ByClauses.f k a l) (fun k => impl_ByClauses.f k a l) := by
  by_cases h : GoodC a l = true ∧ a ≤ 6
  · have h1 := h.1
    unfold GoodC at h1
    simp only [Bool.and_eq_true, In_true] at h1
    obtain ⟨v, rfl⟩ : ∃ v : Nat, a = (v : Int) := ⟨a.toNat, by omega⟩
    have hv : v ≤ 6 := by have := h.2; omega
    have h6 := pow6 v hv
    have hT := TC_len v l
    have hb := bld_len v 1 (TC v l) []
    rw [List.length_nil] at hb
    exact ⟨_, byS_good v hv l hl h.1, byI_good v hv l hl h.1, by simp only; omega⟩
  · exact ⟨_, byS_bad a l hl h, byI_bad a l hl h, by simp⟩
theorem FnExactByClauses : laws_FnExactByClauses.Pure := by
  intro a l ha hl
  obtain ⟨s, ⟨K0, h0⟩, hs⟩ := szIntSS_ev l hl.1 (fun c hc => (hl.2 c hc).1)
  refine ⟨s, K0, h0 _ (Nat.le_refl _), fun h => ?_⟩
  obtain ⟨hlen, htot⟩ := hs h
  have hr : ∀ c, c ∈ l → c.length ≤ 1048576 := fun c hc => Nat.le_trans (mem_tot l c hc) htot
  obtain ⟨⟨v, n, t, b⟩, h1, h2, hn⟩ := byClauses_both a l ⟨hlen, hr⟩
  simp only at hn
  obtain ⟨K1, e1⟩ := toIntSS_ev l hlen hr
  obtain ⟨K2, e2⟩ := h1
  obtain ⟨K3, e3⟩ := h2
  obtain ⟨K4, e4⟩ := eqDiagram_self v n t (by omega)
  obtain ⟨K5, e5⟩ := eqIntSS_self l hlen hr
  obtain ⟨K6, e6⟩ := markIntSS_ev l 1 hlen (by omega) (by omega)
  obtain ⟨K7, e7⟩ := markDiagram_ev v n t 1 (by omega) (by omega)
  obtain ⟨K8, e8⟩ := heldDiagram_ev v t n.length 1 (by omega) (by omega)
  exact ⟨K1 + K2 + K3 + K4 + K5 + K6 + K7 + K8, _, v, t, n, _, b, _, _, e1 _ (by omega), e2 _ (by omega), e3 _ (by omega), e4 _ (by omega), e5 _ (by omega), e6 _ (by omega), by omega, e7 _ (by omega), e8 _ (by omega), by omega⟩
end Go.Proofs.Ytpndhlcbfobelaa.Pure
