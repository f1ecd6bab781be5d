import Derived.Test.YtgahidilhjijiaaPGDx1
import Derived.Test.YtgahidilhjijiaaPGDx2
import Derived.Test.YtgahidilhjijiaaPGDx3
import Derived.Test.YtgahidilhjijiaaPGDx4
import Derived.Test.YtgahidilhjijiaaPGDx5
import Derived.Test.YtgahidilhjijiaaPGDx6
namespace Go.Proofs.Ytgahidilhjijiaa.Pure
open Go Go.RowKit Go.Proofs.Ytgahidilhjijiaa.PGD Go.Proofs.YtgahidilhjijiaaW.PrintWords Go.Proofs.YtgahidilhjijiaaW.PrintLast Go.Proofs.YtgahidilhjijiaaW.PrintMore
set_option linter.unusedVariables false
set_option linter.unusedSimpArgs false
def In (a lo hi : Int) : Bool := decide (lo ≤ a) && decide (a ≤ hi)
theorem In_true {a lo hi : Int} : In a lo hi = true ↔ lo ≤ a ∧ a ≤ hi := by simp [In]
theorem In_ite {a lo hi : Int} : (if a ≥ lo then some (decide (a ≤ hi)) else some false) = some (In a lo hi) := by
  unfold In; by_cases h : lo ≤ a <;> simp [h]
theorem spec_l1In_eq (a b c : Int) : spec_l1In.f a b c = some (In a b c) := by unfold spec_l1In.f; exact In_ite
theorem impl_in_eq (a b c : Int) : impl_in.f a b c = some (In a b c) := by unfold impl_in.f; exact In_ite
def andn (a b : Nat) : Nat := a ^^^ (a &&& b)
theorem Ev.pos {α : Type} {c : Prop} [Decidable c] {A B : Nat → Option α} {r : α} (h : c) (e : Ev A r) : Ev (fun k => if c then A k else B k) r := Ev.congr (fun _ => if_pos h) e
theorem Ev.neg {α : Type} {c : Prop} [Decidable c] {A B : Nat → Option α} {r : α} (h : ¬ c) (e : Ev B r) : Ev (fun k => if c then A k else B k) r := Ev.congr (fun _ => if_neg h) e
theorem Ev.bindE {α β : Type} {g : Option α} {f : Nat → α → Option β} {a : α} {r : β} (h : g = some a) (k : Ev (fun n => f n a) r) : Ev (fun n => g.bind (f n)) r := by subst h; exact k
theorem Ev.at_ {α : Type} {g : Nat → Option α} {r r' : α} (h : Ev g r) (e : r = r') : Ev g r' := e ▸ h
theorem Ev.one {α : Type} {g : Nat → Option α} {r r' : α} (h : Ev g r) (h' : Ev g r') : r = r' := by
  obtain ⟨K, h⟩ := h; obtain ⟨K', h'⟩ := h'
  have a := h (max K K') (by omega); have b := h' (max K K') (by omega)
  rw [a] at b; exact Option.some.inj b
def Both {α : Type} (P : α → Prop) (g f : Nat → Option α) : Prop := ∃ r, Ev g r ∧ Ev f r ∧ P r
theorem Both.now {α : Type} {P : α → Prop} (r : α) (h : P r) : Both P (fun _ => some r) (fun _ => some r) := ⟨r, Ev.now r, Ev.now r, h⟩
theorem Both.mono {α : Type} {P Q : α → Prop} {g f : Nat → Option α} (h : Both P g f) (hq : ∀ r, P r → Q r) : Both Q g f := by obtain ⟨r, a, b, c⟩ := h; exact ⟨r, a, b, hq r c⟩
theorem Both.congrL {α : Type} {P : α → Prop} {g g' f : Nat → Option α} (e : ∀ k, g k = g' k) (h : Both P g' f) : Both P g f := by obtain ⟨r, a, b, c⟩ := h; exact ⟨r, a.congr e, b, c⟩
theorem Both.congrR {α : Type} {P : α → Prop} {g f f' : Nat → Option α} (e : ∀ k, f k = f' k) (h : Both P g f') : Both P g f := by obtain ⟨r, a, b, c⟩ := h; exact ⟨r, a, b.congr e, c⟩
theorem Both.posL {α : Type} {P : α → Prop} {c : Prop} [Decidable c] {A B f : Nat → Option α} (h : c) (e : Both P A f) : Both P (fun k => if c then A k else B k) f := e.congrL (fun _ => if_pos h)
theorem Both.negL {α : Type} {P : α → Prop} {c : Prop} [Decidable c] {A B f : Nat → Option α} (h : ¬ c) (e : Both P B f) : Both P (fun k => if c then A k else B k) f := e.congrL (fun _ => if_neg h)
theorem Both.posR {α : Type} {P : α → Prop} {c : Prop} [Decidable c] {A B f : Nat → Option α} (h : c) (e : Both P f A) : Both P f (fun k => if c then A k else B k) := e.congrR (fun _ => if_pos h)
theorem Both.negR {α : Type} {P : α → Prop} {c : Prop} [Decidable c] {A B f : Nat → Option α} (h : ¬ c) (e : Both P f B) : Both P f (fun k => if c then A k else B k) := e.congrR (fun _ => if_neg h)
theorem Both.ite {α : Type} {P : α → Prop} {c : Prop} [Decidable c] {A B A' B' : Nat → Option α} (h1 : c → Both P A A') (h2 : ¬ c → Both P B B') : Both P (fun k => if c then A k else B k) (fun k => if c then A' k else B' k) := by
  by_cases h : c
  · exact ((h1 h).posL h).posR h
  · exact ((h2 h).negL h).negR h
theorem Both.stepL {α : Type} {P : α → Prop} {g g' f : Nat → Option α} (e : ∀ k, g (k + 1) = g' k) (h : Both P g' f) : Both P g f := by obtain ⟨r, a, b, c⟩ := h; exact ⟨r, a.step e, b, c⟩
theorem Both.stepR {α : Type} {P : α → Prop} {g f f' : Nat → Option α} (e : ∀ k, f (k + 1) = f' k) (h : Both P g f') : Both P g f := by obtain ⟨r, a, b, c⟩ := h; exact ⟨r, a, b.step e, c⟩
theorem Both.bindEL {α β : Type} {P : β → Prop} {g : Option α} {F : Nat → α → Option β} {f : Nat → Option β} {a : α} (h : g = some a) (e : Both P (fun k => F k a) f) : Both P (fun k => g.bind (F k)) f := by subst h; exact e
theorem Both.bindER {α β : Type} {P : β → Prop} {g : Option α} {F : Nat → α → Option β} {f : Nat → Option β} {a : α} (h : g = some a) (e : Both P f (fun k => F k a)) : Both P f (fun k => g.bind (F k)) := by subst h; exact e
theorem w1 (i : Nat) (h : i < 4611686018427387904) : wrap64 ((i : Int) + 1) = ((i + 1 : Nat) : Int) := by unfold wrap64; omega
theorem wrap_id (x : Int) (h0 : -9223372036854775808 ≤ x) (h1 : x ≤ 9223372036854775807) : wrap64 x = x := by unfold wrap64; omega
theorem rd_nat (l : List Int) (i : Nat) (h : i < l.length) : rd l (i : Int) = l[i] := by unfold rd; simp [List.getD, h]
theorem set_take {α : Type} (l : List α) (i : Nat) (v : α) (h : i < l.length) : (l.set i v).take (i + 1) = l.take i ++ [v] := by
  rw [List.take_succ_eq_append_getElem (by simpa using h), List.take_set_of_le (Nat.le_refl i)]; simp
def bitM (x : Int) (i : Nat) : Bool := Go.bits .and .i64 (shr .i64 x (i : Int)) 1 == 1
def modelM (n : Nat) (x : Int) : List Bool := (List.range n).map (fun i => bitM x i)
def GoodK (v m : Int) : Bool := In v 0 65535 && In m 0 65535 && (Go.bits .and .i64 v m == 0)
def GoodS (lo hi : Int) : Bool := In lo 0 65535 && In hi 0 65535 && decide (lo ≤ hi)
def JoinK (a b c d : Int) : Int × Int := (Go.bits .andNot .i64 a (Go.bits .or .i64 (Go.bits .or .i64 b d) (Go.bits .xor .i64 a c)), Go.bits .or .i64 (Go.bits .or .i64 b d) (Go.bits .xor .i64 a c))
def JoinS (a b c d : Int) : Int × Int := (mn a c, mx b d)
def MeetS (a b c d : Int) : Int × Int × Bool := if mx a c > mn b d then (0, 0, false) else (mx a c, mn b d, true)
def LessS (a b c d : Int) : Int × Int × Int × Int × Bool := if a ≥ d then (0, 0, 0, 0, false) else (a, mn b (wrap64 (d - 1)), mx c (wrap64 (a + 1)), d, true)
theorem Gatea_nat (l : List S71) (i : Nat) (h : i < l.length) : rd_T71 l (i : Int) = l[i] := by unfold rd_T71; simp [List.getD, h]
theorem Gateb_nat (l : List S69) (i : Nat) (h : i < l.length) : rd_T69 l (i : Int) = l[i] := by unfold rd_T69; simp [List.getD, h]
theorem toGate_eq (a0 a1 a2 : Int) : laws_toGate.f a0 a1 a2 = some (a0, a1, a2) := rfl
def cvGate (x : S71) : S69 := ⟨x.f0, x.f1, x.f2⟩
theorem toGateS_loop (l : List S71) (hl : l.length ≤ 1099511627776) : ∀ (d i : Nat) (acc : List S69), i + d = l.length → acc.length = l.length → acc.take i = (l.take i).map cvGate → Ev (fun k => laws_toGateS.l0 k l acc (i : Int)) (l.map cvGate)
  | 0, i, acc, hi, ha, ht => by
    refine Ev.step (fun k => laws_toGateS.l0.eq_2 ..) ?_
    refine Ev.neg (by omega) ?_
    rw [List.take_of_length_le (by omega), List.take_of_length_le (by omega)] at ht
    rw [ht]; exact Ev.now _
  | d + 1, i, acc, hi, ha, ht => by
    refine Ev.step (fun k => laws_toGateS.l0.eq_2 ..) ?_
    refine Ev.pos (by omega) (Ev.pos (by omega) (Ev.bindE (toGate_eq ..) (Ev.pos (by omega) ?_)))
    rw [w1 i (by omega), Int.toNat_natCast]
    refine toGateS_loop l hl d (i + 1) _ (by omega) (by simpa using ha) ?_
    rw [set_take _ _ _ (by omega), ht, List.take_succ_eq_append_getElem (show i < l.length by omega), List.map_append]
    rw [Gatea_nat l i (by omega)]; rfl
theorem toGateS_ev (l : List S71) (hl : l.length ≤ 1048576) : Ev (fun k => laws_toGateS.f k l) (l.map cvGate) := by
  unfold laws_toGateS.f
  refine Ev.pos (by omega) (Ev.pos (by omega) ?_)
  exact toGateS_loop l (by omega) l.length 0 _ (by omega) (by simp) (by simp)
theorem szGateS_ok (l : List S71) (a : Int) (h : (l.length : Int) ≤ a) (ha : a ≤ 1048576) : laws_szGateS.f l a = some (a - l.length) := by
  unfold laws_szGateS.f; rw [wrap_id _ (by omega) (by omega), if_neg (by omega)]
theorem szGateS_big (l : List S71) (a : Int) (h : a < (l.length : Int)) (ha : a ≤ 1048576) (h0 : 0 ≤ a) (hl : l.length ≤ maxLen) : laws_szGateS.f l a = some (-1) := by
  unfold maxLen at hl; unfold laws_szGateS.f; rw [wrap_id _ (by omega) (by omega), if_pos (by omega)]
theorem eqGate_self (a0 a1 a2 : Int) : laws_eqGate.f a0 a1 a2 a0 a1 a2 = some true := by unfold laws_eqGate.f; simp
theorem eqGateS_loop (l : List S69) (hl : l.length ≤ 1099511627776) : ∀ (d i : Nat), i + d = l.length → Ev (fun k => laws_eqGateS.l0 k l l (i : Int)) true
  | 0, i, hi => by
    refine Ev.step (fun k => laws_eqGateS.l0.eq_2 ..) ?_
    exact Ev.neg (by omega) (Ev.now _)
  | d + 1, i, hi => by
    refine Ev.step (fun k => laws_eqGateS.l0.eq_2 ..) ?_
    refine Ev.pos (by omega) (Ev.pos (by omega) (Ev.pos (by omega) (Ev.bindE (eqGate_self ..) (Ev.pos rfl ?_))))
    rw [w1 i (by omega)]
    exact eqGateS_loop l hl d (i + 1) (by omega)
theorem eqGateS_self (l : List S69) (hl : l.length ≤ 1099511627776) : Ev (fun k => laws_eqGateS.f k l l) true := by
  unfold laws_eqGateS.f
  exact Ev.pos rfl (eqGateS_loop l hl l.length 0 (by omega))
theorem Gateb_set (l : List S69) (i : Nat) (v : S69) (h : i < l.length) : rd_T69 (l.set i v) (i : Int) = v := by
  rw [Gateb_nat _ _ (by simpa using h)]; simp
def mkGate (m : Int) (n : Nat) : List S69 := (List.range n).map (fun j : Nat => (⟨m + 3 * j + 0, m + 3 * j + 1, m + 3 * j + 2⟩ : S69))
theorem markGateS_loop (n : Nat) (m : Int) (hl : n ≤ 1099511627776) (hm : 0 ≤ m ∧ m ≤ 1099511627776) : ∀ (d i : Nat) (acc : List S69), i + d = n → acc.length = n → acc.take i = (mkGate m n).take i → Ev (fun k => laws_markGateS.l0 k acc (m + 3 * (i : Int)) (i : Int)) (m + 3 * (n : Int), mkGate m n)
  | 0, i, acc, hi, ha, ht => by
    refine Ev.step (fun k => laws_markGateS.l0.eq_2 ..) ?_
    refine Ev.neg (by omega) ?_
    rw [List.take_of_length_le (by omega), List.take_of_length_le (by simp [mkGate]; omega)] at ht
    obtain rfl : i = n := by omega
    rw [ht]; exact Ev.now _
  | d + 1, i, acc, hi, ha, ht => by
    refine Ev.step (fun k => laws_markGateS.l0.eq_2 ..) ?_
    have hi' : i < acc.length := by omega
    refine Ev.pos (by omega) (Ev.pos (by omega) (Ev.bindE rfl (Ev.bindE rfl ?_)))
    simp only [Int.toNat_natCast, Gateb_set _ _ _ hi', List.set_set, List.length_set, wrap64]
    have hb : ∀ x : Int, 0 ≤ x → x < 9223372036854775808 → (x + 9223372036854775808) % 18446744073709551616 - 9223372036854775808 = x := fun x _ _ => by omega
    have e0 : (m + 3 * (i : Int)) = m + 3 * (i : Int) + 0 := by omega
    rw [hb (m + 3 * (i : Int) + 1) (by omega) (by omega), hb (m + 3 * (i : Int) + 1 + 1) (by omega) (by omega), hb (m + 3 * (i : Int) + 1 + 1 + 1) (by omega) (by omega), hb ((i : Int) + 1) (by omega) (by omega)]
    rw [show ((i : Int) + 1) = ((i + 1 : Nat) : Int) by omega, show (m + 3 * (i : Int) + 1 + 1 + 1) = m + 3 * ((i + 1 : Nat) : Int) by omega]
    skip
    refine markGateS_loop n m hl hm d (i + 1) _ (by omega) (by simpa using ha) ?_
    rw [set_take _ _ _ hi', ht, List.take_succ_eq_append_getElem (l := mkGate m n) (by simp [mkGate]; omega)]
    simp [mkGate, Int.add_assoc]
theorem markGateS_ev (l : List S69) (m : Int) (hl : l.length ≤ 1099511627776) (hm : 0 ≤ m ∧ m ≤ 1099511627776) : Ev (fun k => laws_markGateS.f k l m) (m + 3 * (l.length : Int), mkGate m l.length) := by
  unfold laws_markGateS.f
  have h := markGateS_loop l.length m hl hm l.length 0 l (by omega) rfl (by simp)
  simpa using h
theorem eqIntS_loop (l : List Int) (hl : l.length ≤ 1099511627776) : ∀ (d i : Nat), i + d = l.length → Ev (fun k => laws_eqIntS.l0 k l l (i : Int)) true
  | 0, i, hi => by
    refine Ev.step (fun k => laws_eqIntS.l0.eq_2 ..) ?_
    exact Ev.neg (by omega) (Ev.now _)
  | d + 1, i, hi => by
    refine Ev.step (fun k => laws_eqIntS.l0.eq_2 ..) ?_
    refine Ev.pos (by omega) (Ev.pos (by omega) (Ev.pos (by omega) (Ev.pos rfl ?_)))
    rw [w1 i (by omega)]
    exact eqIntS_loop l hl d (i + 1) (by omega)
theorem eqIntS_self (l : List Int) (hl : l.length ≤ 1099511627776) : Ev (fun k => laws_eqIntS.f k l l) true := by
  unfold laws_eqIntS.f
  exact Ev.pos rfl (eqIntS_loop l hl l.length 0 (by omega))
def mkInt (m : Int) (n : Nat) : List Int := (List.range n).map (fun j : Nat => m + (j : Int))
theorem mkInt_len (m : Int) (n : Nat) : (mkInt m n).length = n := by simp [mkInt]
theorem markIntS_loop (n : Nat) (m : Int) (hl : n ≤ 1099511627776) (hm : 0 ≤ m ∧ m ≤ 1099511627776) : ∀ (d i : Nat) (acc : List Int), i + d = n → acc.length = n → acc.take i = (mkInt m n).take i → Ev (fun k => laws_markIntS.l0 k acc (m + (i : Int)) (i : Int)) (m + (n : Int), mkInt m n)
  | 0, i, acc, hi, ha, ht => by
    refine Ev.step (fun k => laws_markIntS.l0.eq_2 ..) ?_
    refine Ev.neg (by omega) ?_
    rw [List.take_of_length_le (by omega), List.take_of_length_le (by simp [mkInt]; omega)] at ht
    obtain rfl : i = n := by omega
    rw [ht]; exact Ev.now _
  | d + 1, i, acc, hi, ha, ht => by
    refine Ev.step (fun k => laws_markIntS.l0.eq_2 ..) ?_
    have hi' : i < acc.length := by omega
    refine Ev.pos (by omega) (Ev.pos (by omega) ?_)
    rw [w1 i (by omega), Int.toNat_natCast, show wrap64 (m + (i : Int) + 1) = m + ((i + 1 : Nat) : Int) by unfold wrap64; omega]
    refine markIntS_loop n m hl hm d (i + 1) _ (by omega) (by simpa using ha) ?_
    rw [set_take _ _ _ hi', ht, List.take_succ_eq_append_getElem (l := mkInt m n) (by simp [mkInt]; omega)]
    simp [mkInt]
theorem markIntS_ev (l : List Int) (m : Int) (hl : l.length ≤ 1099511627776) (hm : 0 ≤ m ∧ m ≤ 1099511627776) : Ev (fun k => laws_markIntS.f k l m) (m + (l.length : Int), mkInt m l.length) := by
  unfold laws_markIntS.f
  have h := markIntS_loop l.length m hl hm l.length 0 l (by omega) rfl (by simp)
  simpa using h
theorem heldIntS_loop (n : Nat) (m : Int) (hl : n ≤ 1099511627776) (hm : 0 ≤ m ∧ m ≤ 1099511627776) : ∀ (d i : Nat), i + d = n → Ev (fun k => laws_heldIntS.l0 k (mkInt m n) (m + (i : Int)) (i : Int)) (m + (n : Int))
  | 0, i, hi => by
    have hlen := mkInt_len m n
    refine Ev.step (fun k => laws_heldIntS.l0.eq_2 ..) ?_
    refine Ev.neg (by omega) ?_
    obtain rfl : i = n := by omega
    exact Ev.now _
  | d + 1, i, hi => by
    have hlen := mkInt_len m n
    refine Ev.step (fun k => laws_heldIntS.l0.eq_2 ..) ?_
    have hg : rd (mkInt m n) (i : Int) = (m + (i : Int)) := by rw [rd_nat _ i (by omega)]; simp [mkInt]
    refine Ev.pos (by omega) (Ev.pos (by omega) (Ev.pos hg ?_))
    rw [w1 i (by omega), show wrap64 (m + (i : Int) + 1) = m + ((i + 1 : Nat) : Int) by unfold wrap64; omega]
    exact heldIntS_loop n m hl hm d (i + 1) (by omega)
theorem heldIntS_ev (n : Nat) (m : Int) (hl : n ≤ 1099511627776) (hm : 0 ≤ m ∧ m ≤ 1099511627776) : Ev (fun k => laws_heldIntS.f k (mkInt m n) m) (m + (n : Int)) := by
  unfold laws_heldIntS.f
  have h := heldIntS_loop n m hl hm n 0 (by omega)
  simpa using h
theorem rdL_nat (l : List (List Int)) (i : Nat) (h : i < l.length) : rd_L3 l (i : Int) = l[i] := by unfold rd_L3; simp [List.getD, h]
theorem eqIntSS_loop (l : List (List Int)) (hl : l.length ≤ 1048576) (hr : ∀ c, c ∈ l → c.length ≤ 1048576) : ∀ (d i : Nat), i + d = l.length → Ev (fun k => laws_eqIntSS.l0 k l l (i : Int)) true
  | 0, i, hi => Ev.step (fun k => laws_eqIntSS.l0.eq_2 ..) (Ev.neg (by omega) (Ev.now _))
  | d + 1, i, hi => by
    have h : i < l.length := by omega
    have hc := hr l[i] (List.getElem_mem h)
    refine Ev.step (fun k => laws_eqIntSS.l0.eq_2 ..) (Ev.pos (by omega) (Ev.pos (by omega) (Ev.pos (by omega) ?_)))
    rw [rdL_nat l i h, w1 i (by omega)]
    exact Ev.bind (eqIntS_self _ (by omega)) (Ev.pos rfl (eqIntSS_loop l hl hr d (i + 1) (by omega)))
theorem eqIntSS_self (l : List (List Int)) (hl : l.length ≤ 1048576) (hr : ∀ c, c ∈ l → c.length ≤ 1048576) : Ev (fun k => laws_eqIntSS.f k l l) true := by
  unfold laws_eqIntSS.f
  exact Ev.pos rfl (eqIntSS_loop l hl hr l.length 0 (by omega))
def mkSS : Int → List (List Int) → List (List Int)
  | _, [] => []
  | m, r :: rs => mkInt m r.length :: mkSS (m + (r.length : Int)) rs
def totSS : List (List Int) → Nat
  | [] => 0
  | r :: rs => r.length + totSS rs
theorem mkSS_len : ∀ (l : List (List Int)) (m : Int), (mkSS m l).length = l.length
  | [], _ => rfl
  | r :: rs, m => by unfold mkSS; rw [List.length_cons, List.length_cons, mkSS_len rs]
theorem markIntSS_loop : ∀ (rest dn : List (List Int)) (m : Int), dn.length + rest.length ≤ 1048576 → 0 ≤ m → m + (totSS rest : Int) ≤ 1099511627776 → Ev (fun k => laws_markIntSS.l0 k (dn ++ rest) m (dn.length : Int)) (m + (totSS rest : Int), dn ++ mkSS m rest)
  | [], dn, m, _, _, _ => by
    refine Ev.step (fun k => laws_markIntSS.l0.eq_2 ..) ?_
    rw [List.append_nil]
    refine Ev.neg (by omega) (Ev.at_ (Ev.now _) ?_)
    simp [totSS, mkSS]
  | r :: rest, dn, m, hl, hm, ht => by
    rw [List.length_cons] at hl
    have hts : totSS (r :: rest) = r.length + totSS rest := rfl
    refine Ev.step (fun k => laws_markIntSS.l0.eq_2 ..) ?_
    have hlen : (dn ++ r :: rest).length = dn.length + (rest.length + 1) := by rw [List.length_append, List.length_cons]
    refine Ev.pos (by omega) (Ev.pos (by omega) ?_)
    have eg : (dn ++ r :: rest).getD dn.length [] = r := by simp [List.getD]
    have es : (dn ++ r :: rest).set dn.length (mkInt m r.length) = (dn ++ [mkInt m r.length]) ++ rest := by simp
    rw [Int.toNat_natCast, eg, w1 dn.length (by omega)]
    refine Ev.bind (markIntS_ev r m (by omega) (by omega)) ?_
    simp only
    rw [es]
    have ih := markIntSS_loop rest (dn ++ [mkInt m r.length]) (m + (r.length : Int)) (by rw [List.length_append, List.length_singleton]; omega) (by omega) (by omega)
    rw [List.length_append, List.length_singleton] at ih
    refine Ev.at_ ih ?_
    rw [List.append_assoc]
    show _ = (_, dn ++ (mkInt m r.length :: mkSS (m + (r.length : Int)) rest))
    rw [List.singleton_append, hts]
    congr 1
    omega
theorem markIntSS_ev (l : List (List Int)) (m : Int) (hl : l.length ≤ 1048576) (hm : 0 ≤ m) (ht : m + (totSS l : Int) ≤ 1099511627776) : Ev (fun k => laws_markIntSS.f k l m) (m + (totSS l : Int), mkSS m l) := by
  have h := markIntSS_loop l [] m (by simpa using hl) hm ht
  unfold laws_markIntSS.f
  exact h
theorem totSS_le (n : Nat) : ∀ (l : List (List Int)), (∀ c, c ∈ l → c.length ≤ n) → totSS l ≤ n * l.length
  | [], _ => by simp [totSS]
  | r :: rs, h => by
    have h1 := h r (List.mem_cons_self ..)
    have h2 := totSS_le n rs (fun c hc => h c (List.mem_cons_of_mem _ hc))
    unfold totSS
    rw [List.length_cons, Nat.mul_succ]; omega
theorem heldIntSS_loop : ∀ (rest dn : List (List Int)) (m : Int), dn.length + rest.length ≤ 1048576 → 0 ≤ m → m + (totSS rest : Int) ≤ 1099511627776 → Ev (fun k => laws_heldIntSS.l0 k (dn ++ mkSS m rest) m (dn.length : Int)) (m + (totSS rest : Int))
  | [], dn, m, _, _, _ => by
    refine Ev.step (fun k => laws_heldIntSS.l0.eq_2 ..) ?_
    show Ev (fun k => if (dn.length : Int) < ((dn ++ ([] : List (List Int))).length : Int) then _ else _) _
    rw [List.append_nil]
    refine Ev.neg (by omega) (Ev.at_ (Ev.now _) ?_)
    simp [totSS]
  | r :: rest, dn, m, hl, hm, ht => by
    rw [List.length_cons] at hl
    have hts : totSS (r :: rest) = r.length + totSS rest := rfl
    have hmk : mkSS m (r :: rest) = mkInt m r.length :: mkSS (m + (r.length : Int)) rest := rfl
    rw [hmk]
    refine Ev.step (fun k => laws_heldIntSS.l0.eq_2 ..) ?_
    have hlen : (dn ++ mkInt m r.length :: mkSS (m + (r.length : Int)) rest).length = dn.length + (rest.length + 1) := by rw [List.length_append, List.length_cons, mkSS_len]
    refine Ev.pos (by omega) (Ev.pos (by omega) ?_)
    rw [rdL_nat _ dn.length (by omega), List.getElem_append_right (Nat.le_refl _), w1 dn.length (by omega)]
    simp only [Nat.sub_self, List.getElem_cons_zero]
    refine Ev.bind (heldIntS_ev r.length m (by omega) (by omega)) (Ev.neg (by omega) ?_)
    have ih := heldIntSS_loop rest (dn ++ [mkInt m r.length]) (m + (r.length : Int)) (by rw [List.length_append, List.length_singleton]; omega) (by omega) (by omega)
    rw [List.length_append, List.length_singleton, List.append_assoc, List.singleton_append] at ih
    refine Ev.at_ ih ?_
    rw [hts]; omega
theorem heldIntSS_ev (l : List (List Int)) (m : Int) (hl : l.length ≤ 1048576) (hm : 0 ≤ m) (ht : m + (totSS l : Int) ≤ 1099511627776) : Ev (fun k => laws_heldIntSS.f k (mkSS m l) m) (m + (totSS l : Int)) := by
  have h := heldIntSS_loop l [] m (by simpa using hl) hm ht
  unfold laws_heldIntSS.f
  exact h
def gok (g : S69) (j : Nat) : Prop := (g.f0 = 1 ∧ g.f1 = 0 ∧ g.f2 = 0) ∨ (g.f0 = 2 ∧ (0 ≤ g.f1 ∧ g.f1 < j) ∧ g.f2 = 0) ∨ ((g.f0 = 3 ∨ g.f0 = 4 ∨ g.f0 = 5) ∧ (0 ≤ g.f1 ∧ g.f1 < j) ∧ (0 ≤ g.f2 ∧ g.f2 < j))
def GatesOk (l : List S69) (i : Nat) (r : Bool) : Prop := r = true → (1 ≤ l.length ∧ l.length ≤ 12) ∧ ∀ j (h : j < l.length), i ≤ j → gok l[j] j
theorem goodGates_loop (l : List S69) (hl : l.length ≤ 1099511627776) : ∀ (d i : Nat), i + d = l.length → Both (GatesOk l i) (fun k => spec_GoodGates.l0 k l l (l.length : Int) (i : Int)) (fun k => impl_GoodGates.l0 k l l (l.length : Int) (i : Int))
  | 0, i, hi => by
    refine Both.stepL (fun k => spec_GoodGates.l0.eq_2 ..) (Both.stepR (fun k => impl_GoodGates.l0.eq_2 ..) ?_)
    refine Both.negL (by omega) (Both.negR (by omega) (Both.bindEL (spec_l1In_eq ..) (Both.bindER (impl_in_eq ..) (Both.now _ ?_))))
    intro hr
    have := In_true.1 hr
    exact ⟨by omega, fun j hj hij => by omega⟩
  | d + 1, i, hi => by
    have ih := goodGates_loop l hl d (i + 1) (by omega)
    have hil : i < l.length := by omega
    refine Both.stepL (fun k => spec_GoodGates.l0.eq_2 ..) (Both.stepR (fun k => impl_GoodGates.l0.eq_2 ..) ?_)
    refine Both.posL (by omega) (Both.posL (by omega) (Both.posL (by omega) ?_))
    refine Both.posR (by omega) (Both.posR (by omega) (Both.posR (by omega) ?_))
    refine Both.bindEL (spec_l1In_eq ..) (Both.bindEL (spec_l1In_eq ..) ?_)
    rw [Gateb_nat l i hil, w1 i (by omega)]
    have em : wrap64 ((i : Int) - 1) = (i : Int) - 1 := wrap_id _ (by omega) (by omega)
    rw [em]
    have fin : ∀ r, GatesOk l (i + 1) r → gok l[i] i → GatesOk l i r := by
      intro r h h1 hr
      obtain ⟨a, c⟩ := h hr
      refine ⟨a, fun j hj hij => ?_⟩
      by_cases e : i = j
      · subst e; exact h1
      · exact c j hj (by omega)
    have bad : Both (GatesOk l i) (fun _ => some false) (fun _ => some false) := Both.now _ (fun h => by cases h)
    have two : (l[i].f0 = 3 ∨ l[i].f0 = 4 ∨ l[i].f0 = 5) → Both (GatesOk l i)
        (fun k => spec_GoodGates.j1 k l (In l[i].f1 0 ((i : Int) - 1)) (In l[i].f2 0 ((i : Int) - 1)) l (l.length : Int) (i : Int) true)
        (fun k => impl_GoodGates.j1 k l (i : Int) false l (l.length : Int) (i : Int) true l[i].f0 l[i].f1 l[i].f2) := by
      intro hk
      refine Both.stepL (fun k => spec_GoodGates.j1.eq_2 ..) (Both.stepR (fun k => impl_GoodGates.j1.eq_2 ..) ?_)
      rw [em, w1 i (by omega)]
      refine Both.posL rfl (Both.posR rfl (Both.bindER (impl_in_eq ..) (Both.ite (fun h1 => Both.bindER (impl_in_eq ..) (Both.ite (fun h2 => ih.mono (fun r hr => fin r hr ?_)) (fun _ => bad))) (fun _ => bad))))
      have a := In_true.1 h1; have b := In_true.1 h2
      exact .inr (.inr ⟨hk, by omega, by omega⟩)
    refine Both.ite (fun h1 => Both.ite (fun h2 => Both.ite (fun h3 => ih.mono (fun r hr => fin r hr (.inl ⟨h1, h2, h3⟩))) (fun _ => bad)) (fun _ => bad)) (fun n1 => ?_)
    refine Both.ite (fun h1 => Both.bindER (impl_in_eq ..) (Both.ite (fun h2 => Both.ite (fun h3 => ih.mono (fun r hr => fin r hr (.inr (.inl ⟨h1, by have := In_true.1 h2; omega, h3⟩)))) (fun _ => bad)) (fun _ => bad))) (fun n2 => ?_)
    refine Both.ite (fun h1 => ?_) (fun n3 => Both.ite (fun h1 => ?_) (fun n4 => ?_))
    · rw [show (l[i].f0 == 3) = true by simpa using h1]; exact two (.inl h1)
    · rw [show (l[i].f0 == 4) = true by simpa using h1]; exact two (.inr (.inl h1))
    · by_cases h1 : l[i].f0 = 5
      · rw [show (l[i].f0 == 5) = true by simpa using h1]; exact two (.inr (.inr h1))
      · rw [show (l[i].f0 == 5) = false by simpa using h1]
        refine Both.stepL (fun k => spec_GoodGates.j1.eq_2 ..) (Both.stepR (fun k => impl_GoodGates.j1.eq_2 ..) ?_)
        exact Both.negL (by simp) (Both.negR (by simp) (Both.negR (by simp) bad))
theorem goodGates_both (l : List S69) (hl : l.length ≤ 1099511627776) : Both (GatesOk l 0) (fun k => spec_GoodGates.f k l) (fun k => impl_GoodGates.f k l) := by
  unfold spec_GoodGates.f impl_GoodGates.f
  exact goodGates_loop l hl l.length 0 (by omega)
def inpsFrom : Nat → List S69 → List Int
  | _, [] => []
  | i, g :: gs => if g.f0 = 1 then (i : Int) :: inpsFrom (i + 1) gs else inpsFrom (i + 1) gs
def inps (l : List S69) : List Int := inpsFrom 0 l
def gval (g : S69) (ins acc : List Bool) : Bool :=
  if g.f0 = 1 then ins.getD 0 false
  else if g.f0 = 2 then !(acc.getD g.f1.toNat false)
  else if g.f0 = 3 then acc.getD g.f1.toNat false && acc.getD g.f2.toNat false
  else if g.f0 = 4 then acc.getD g.f1.toNat false || acc.getD g.f2.toNat false
  else acc.getD g.f1.toNat false != acc.getD g.f2.toNat false
def evalFrom : List S69 → List Bool → List Bool → List Bool
  | [], _, acc => acc
  | g :: gs, ins, acc => evalFrom gs (if g.f0 = 1 then ins.drop 1 else ins) (acc ++ [gval g ins acc])
def evalM (l : List S69) (ins : List Bool) : List Bool := evalFrom l ins []
def deposit (m : Nat) : Nat → Nat → Nat → Nat → Nat
  | 0, _, _, out => out
  | d + 1, j, n, out => if m.testBit j = true then deposit m d (j + 1) (n / 2) (out + n % 2 * 2 ^ j) else deposit m d (j + 1) n out
theorem wrap_i64 (y : Int) : IntKind.i64.wrap y = wrap64 y := by
  rw [IntKind.wrap_i64]; unfold wrap64; omega
def EndsM (x y : Int) : Int × Int := if x / 65536 = y / 65536 then (x % 65536, y % 65536) else (0, 65535)
def mayN (v m x : Nat) : Nat := if x = 1 then v ||| m else andn 65535 v
def allIn (lo hi : Int) (l : List Int) : Bool := l.all fun x => In x lo hi
def tr : List Bool → Nat → List Int
  | [], _ => []
  | b :: v, s => if b = true then (s : Int) :: tr v (s + 1) else tr v (s + 1)
def putP : List Int → Int → List Int
  | [], x => [x]
  | a :: l, x => if a < x then a :: putP l x else if a = x then a :: l else x :: a :: l
theorem l1Has_loop (l : List Int) (x : Int) (hl : l.length ≤ 1099511627776) : ∀ (d i : Nat), i + d = l.length → Ev (fun k => spec_l1Has.l0 k x l (l.length : Int) (i : Int)) (decide (x ∈ l.drop i))
  | 0, i, h => by
    rw [List.drop_eq_nil_of_le (by omega)]
    exact Ev.step (fun k => spec_l1Has.l0.eq_2 ..) (Ev.neg (by omega) (Ev.now _))
  | d + 1, i, h => by
    refine Ev.step (fun k => spec_l1Has.l0.eq_2 ..) (Ev.pos (by omega) (Ev.pos (by omega) (Ev.pos (by omega) ?_)))
    rw [rd_nat l i (by omega), w1 i (by omega), List.drop_eq_getElem_cons (show i < l.length by omega)]
    by_cases hx : l[i] = x
    · refine Ev.pos hx (Ev.at_ (Ev.now _) ?_); simp [hx]
    · refine Ev.neg hx (Ev.at_ (l1Has_loop l x hl d (i + 1) (by omega)) ?_)
      have : ¬ x = l[i] := fun h => hx h.symm
      simp only [List.mem_cons, this, false_or]
theorem l1Has_ev (l : List Int) (x : Int) (hl : l.length ≤ 1099511627776) : Ev (fun k => spec_l1Has.f k l x) (decide (x ∈ l)) := by
  have h := l1Has_loop l x hl l.length 0 (by omega)
  rw [List.drop_zero] at h
  exact h
def trp (f : Nat → Bool) : List Bool → Nat → List Int
  | [], _ => []
  | b :: v, s => if (b && f s) = true then (s : Int) :: trp f v (s + 1) else trp f v (s + 1)
theorem idxI_loop (l : List Int) (x : Int) (hl : l.length ≤ 1048576) : ∀ (d i : Nat), i + d = l.length → ∃ r, Ev (fun k => slices_Index_int_int.l0 k l x (l.length : Int) (i : Int)) r ∧ decide (r ≥ 0) = decide (x ∈ l.drop i)
  | 0, i, h => ⟨-1, Ev.step (fun k => slices_Index_int_int.l0.eq_2 ..) (Ev.neg (by omega) (Ev.now _)), by rw [List.drop_eq_nil_of_le (by omega)]; rfl⟩
  | d + 1, i, h => by
    have hi : i < l.length := by omega
    rw [List.drop_eq_getElem_cons hi]
    by_cases e : x = l[i]
    · refine ⟨(i : Int), Ev.step (fun k => slices_Index_int_int.l0.eq_2 ..) (Ev.pos (by omega) (Ev.pos (by omega) (Ev.pos (by omega) ?_))), ?_⟩
      · rw [rd_nat l i hi]; exact Ev.pos e (Ev.now _)
      · rw [decide_eq_true (show ((i : Int) ≥ 0) by omega)]
        exact (decide_eq_true (by rw [e]; exact List.mem_cons_self ..)).symm
    · obtain ⟨r, h1, h2⟩ := idxI_loop l x hl d (i + 1) (by omega)
      refine ⟨r, Ev.step (fun k => slices_Index_int_int.l0.eq_2 ..) (Ev.pos (by omega) (Ev.pos (by omega) (Ev.pos (by omega) ?_))), ?_⟩
      · rw [rd_nat l i hi, w1 i (by omega)]; exact Ev.neg e h1
      · rw [h2]; exact decide_eq_decide.2 (by simp only [List.mem_cons, e, false_or])
theorem contI_ev (l : List Int) (x : Int) (hl : l.length ≤ 1048576) : Ev (fun k => slices_Contains_int_int.f k l x) (decide (x ∈ l)) := by
  obtain ⟨r, h1, h2⟩ := idxI_loop l x hl l.length 0 (by omega)
  rw [List.drop_zero] at h2
  unfold slices_Contains_int_int.f
  exact Ev.bind h1 (Ev.at_ (Ev.now _) h2)
def cln : List Int → List Int → Option (List Int)
  | acc, [] => some acc
  | acc, x :: xs => if -x ∈ acc then none else if x ∈ acc then cln acc xs else cln (acc ++ [x]) xs
def clnQ : Option (List Int) → List Int × Bool
  | some r => (r, true)
  | none => ([], false)
theorem cleanI_loop (c : List Int) (hl : c.length ≤ 1048576) (hx : ∀ x, x ∈ c → -1000 ≤ x ∧ x ≤ 1000) : ∀ (d i : Nat) (acc : List Int), i + d = c.length → acc.length ≤ i → Ev (fun k => impl_clean.l0 k acc c (c.length : Int) (i : Int)) (clnQ (cln acc (c.drop i)))
  | 0, i, acc, h, ha => by
    rw [List.drop_eq_nil_of_le (by omega)]
    exact Ev.step (fun k => impl_clean.l0.eq_2 ..) (Ev.neg (by omega) (Ev.now _))
  | d + 1, i, acc, h, ha => by
    have hi : i < c.length := by omega
    have hb := hx c[i] (List.getElem_mem hi)
    have ew : wrap64 (-c[i]) = -c[i] := wrap_id _ (by omega) (by omega)
    rw [List.drop_eq_getElem_cons hi]
    refine Ev.step (fun k => impl_clean.l0.eq_2 ..) (Ev.pos (by omega) (Ev.pos (by omega) (Ev.pos (by omega) ?_)))
    rw [rd_nat c i hi, w1 i (by omega), ew]
    refine Ev.bind (contI_ev acc (-c[i]) (by omega)) ?_
    unfold cln
    by_cases h1 : -c[i] ∈ acc
    · rw [if_pos h1]; exact Ev.pos (decide_eq_true h1) (Ev.now _)
    · rw [if_neg h1]
      refine Ev.neg (by simp [h1]) (Ev.bind (contI_ev acc c[i] (by omega)) ?_)
      by_cases h2 : c[i] ∈ acc
      · rw [if_pos h2]; exact Ev.pos (decide_eq_true h2) (cleanI_loop c hl hx d (i + 1) acc (by omega) (by omega))
      · rw [if_neg h2]
        exact Ev.neg (by simp [h2]) (Ev.pos (by omega) (cleanI_loop c hl hx d (i + 1) (acc ++ [c[i]]) (by omega) (by simp; omega)))
theorem cleanI_ev (c : List Int) (hl : c.length ≤ 1048576) (hx : ∀ x, x ∈ c → -1000 ≤ x ∧ x ≤ 1000) : Ev (fun k => impl_clean.f k c) (clnQ (cln [] c)) := by
  have := cleanI_loop c hl hx c.length 0 [] (by omega) (by simp)
  rw [List.drop_zero] at this
  exact this
theorem cleanS_loop (c : List Int) (hl : c.length ≤ 40) (hx : ∀ x, x ∈ c → x ≠ 0 ∧ -12 ≤ x ∧ x ≤ 12) : ∀ (d i : Nat) (acc : List Int), i + d = c.length → acc.length ≤ i → Ev (fun k => spec_CleanClause.l0 k acc c (c.length : Int) (i : Int)) (clnQ (cln acc (c.drop i)))
  | 0, i, acc, h, ha => by
    rw [List.drop_eq_nil_of_le (by omega)]
    exact Ev.step (fun k => spec_CleanClause.l0.eq_2 ..) (Ev.neg (by omega) (Ev.now _))
  | d + 1, i, acc, h, ha => by
    have hi : i < c.length := by omega
    have hb := hx c[i] (List.getElem_mem hi)
    have ew : wrap64 (-c[i]) = -c[i] := wrap_id _ (by omega) (by omega)
    rw [List.drop_eq_getElem_cons hi]
    refine Ev.step (fun k => spec_CleanClause.l0.eq_2 ..) (Ev.pos (by omega) (Ev.pos (by omega) (Ev.pos (by omega) ?_)))
    rw [rd_nat c i hi, ew]
    refine Ev.neg hb.1 (Ev.bindE (spec_l1In_eq ..) (Ev.pos (In_true.2 hb.2) (Ev.bind (l1Has_ev acc (-c[i]) (by omega)) ?_)))
    refine Ev.step (fun k => spec_CleanClause.j1.eq_2 ..) ?_
    rw [w1 i (by omega)]
    unfold cln
    by_cases h1 : -c[i] ∈ acc
    · rw [if_pos h1]; exact Ev.pos (decide_eq_true h1) (Ev.now _)
    · rw [if_neg h1]
      refine Ev.neg (by simp [h1]) (Ev.bind (l1Has_ev acc c[i] (by omega)) ?_)
      by_cases h2 : c[i] ∈ acc
      · rw [if_pos h2]; exact Ev.pos (decide_eq_true h2) (cleanS_loop c hl hx d (i + 1) acc (by omega) (by omega))
      · rw [if_neg h2]
        exact Ev.neg (by simp [h2]) (Ev.pos (by omega) (cleanS_loop c hl hx d (i + 1) (acc ++ [c[i]]) (by omega) (by simp; omega)))
theorem cleanS_ev (c : List Int) (hl : c.length ≤ 40) (hx : ∀ x, x ∈ c → x ≠ 0 ∧ -12 ≤ x ∧ x ≤ 12) : Ev (fun k => spec_CleanClause.f k c) (clnQ (cln [] c)) := by
  unfold spec_CleanClause.f
  have := cleanS_loop c hl hx c.length 0 [] (by omega) (by simp)
  rw [List.drop_zero] at this
  exact Ev.neg (by omega) this
def rawC (g : S69) (n : Int) : List (List Int) :=
  if g.f0 = 2 then [[n, g.f1 + 1], [-n, -(g.f1 + 1)]]
  else if g.f0 = 3 then [[-n, g.f1 + 1], [-n, g.f2 + 1], [n, -(g.f1 + 1), -(g.f2 + 1)]]
  else if g.f0 = 4 then [[n, -(g.f1 + 1)], [n, -(g.f2 + 1)], [-n, g.f1 + 1, g.f2 + 1]]
  else if g.f0 = 5 then [[-n, g.f1 + 1, g.f2 + 1], [-n, -(g.f1 + 1), -(g.f2 + 1)], [n, -(g.f1 + 1), g.f2 + 1], [n, g.f1 + 1, -(g.f2 + 1)]]
  else []
def gC (g : S69) (n : Int) : List (List Int) := (rawC g n).filterMap (cln [])
theorem gok_rng {g : S69} {j : Nat} (h : gok g j) : 0 ≤ g.f1 ∧ 0 ≤ g.f2 ∧ g.f1 ≤ j ∧ g.f2 ≤ j := by
  rcases h with ⟨_, h1, h2⟩ | ⟨_, h1, h2⟩ | ⟨_, h1, h2⟩ <;> omega
theorem gok_kind {g : S69} {j : Nat} (h : gok g j) : g.f0 = 1 ∨ g.f0 = 2 ∨ g.f0 = 3 ∨ g.f0 = 4 ∨ g.f0 = 5 := by
  rcases h with ⟨h, _⟩ | ⟨h, _⟩ | ⟨h, _⟩ <;> omega
theorem rawC_len (g : S69) (n : Int) : (rawC g n).length ≤ 4 := by
  unfold rawC; (repeat' split) <;> simp
theorem rawC_lits {g : S69} {i v : Nat} (h : gok g i) (hi : i < v) : ∀ c, c ∈ rawC g ((i + 1 : Nat) : Int) → c.length ≤ 3 ∧ ∀ x, x ∈ c → x ≠ 0 ∧ -(v : Int) ≤ x ∧ x ≤ (v : Int) := by
  intro c hc
  have hr := gok_rng h
  have key : ∀ x : Int, (x = ((i + 1 : Nat) : Int) ∨ x = -((i + 1 : Nat) : Int) ∨ x = g.f1 + 1 ∨ x = -(g.f1 + 1) ∨ x = g.f2 + 1 ∨ x = -(g.f2 + 1)) → g.f1 < v ∧ g.f2 < v → x ≠ 0 ∧ -(v : Int) ≤ x ∧ x ≤ (v : Int) := by
    intro x hx hv; omega
  have hv : g.f1 < v ∧ g.f2 < v := by omega
  unfold rawC at hc
  (repeat' split at hc) <;> simp only [List.mem_cons, List.not_mem_nil, or_false] at hc <;> (try contradiction) <;>
    (rcases hc with rfl | rfl | rfl | rfl <;> (refine ⟨by simp, fun x hx => key x ?_ hv⟩; simp only [List.mem_cons, List.not_mem_nil, or_false] at hx; omega))
theorem cln_len : ∀ (xs acc r : List Int), cln acc xs = some r → r.length ≤ acc.length + xs.length
  | [], acc, r, h => by
    obtain rfl := Option.some.inj h
    simp
  | x :: xs, acc, r, h => by
    unfold cln at h
    by_cases h1 : -x ∈ acc
    · rw [if_pos h1] at h; cases h
    · rw [if_neg h1] at h
      by_cases h2 : x ∈ acc
      · rw [if_pos h2] at h
        have := cln_len xs acc r h
        rw [List.length_cons]; omega
      · rw [if_neg h2] at h
        have := cln_len xs (acc ++ [x]) r h
        rw [List.length_append, List.length_singleton] at this
        rw [List.length_cons]; omega
theorem gC_rows {g : S69} {i : Nat} (h : gok g i) : ∀ c, c ∈ gC g ((i + 1 : Nat) : Int) → c.length ≤ 3 := by
  intro c hc
  obtain ⟨r, hr, e⟩ := List.mem_filterMap.1 hc
  have h1 := (rawC_lits h (Nat.lt_succ_self i) r hr).1
  have h2 := cln_len r [] c e
  simp only [List.length_nil] at h2
  omega
theorem gC_len (g : S69) (n : Int) : (gC g n).length ≤ 4 := Nat.le_trans (List.length_filterMap_le ..) (rawC_len g n)
def cFrom : Nat → List S69 → List (List Int)
  | _, [] => []
  | i, g :: gs => gC g ((i + 1 : Nat) : Int) ++ cFrom (i + 1) gs
def clausesM (l : List S69) : List (List Int) := cFrom 0 l ++ [[(l.length : Int)]]
theorem cFrom_rows : ∀ (l : List S69) (i : Nat), (∀ j (h : j < l.length), gok l[j] (i + j)) → ∀ c, c ∈ cFrom i l → c.length ≤ 3
  | [], i, _, c, hc => by simp [cFrom] at hc
  | g :: gs, i, hok, c, hc => by
    unfold cFrom at hc
    rcases List.mem_append.1 hc with hc | hc
    · exact gC_rows (hok 0 (by simp)) c hc
    · refine cFrom_rows gs (i + 1) (fun j hj => ?_) c hc
      have := hok (j + 1) (by simp; omega)
      rw [List.getElem_cons_succ] at this
      rw [show i + 1 + j = i + (j + 1) by omega]; exact this
theorem cFrom_len : ∀ (l : List S69) (i : Nat), (cFrom i l).length ≤ 4 * l.length
  | [], i => by simp [cFrom]
  | g :: gs, i => by
    have := cFrom_len gs (i + 1)
    have := gC_len g ((i + 1 : Nat) : Int)
    unfold cFrom; rw [List.length_append, List.length_cons]; omega
theorem gcI_loop (rs : List (List Int)) (hl : rs.length ≤ 1000) (hx : ∀ c, c ∈ rs → c.length ≤ 3 ∧ ∀ x, x ∈ c → x ≠ 0 ∧ -12 ≤ x ∧ x ≤ 12) : ∀ (d i : Nat) (acc : List (List Int)), i + d = rs.length → acc.length ≤ i → Ev (fun k => impl_gateClauses.l0 k acc rs (rs.length : Int) (i : Int)) (acc ++ (rs.drop i).filterMap (cln []))
  | 0, i, acc, h, ha => by
    rw [List.drop_eq_nil_of_le (by omega), List.filterMap_nil, List.append_nil]
    exact Ev.step (fun k => impl_gateClauses.l0.eq_2 ..) (Ev.neg (by omega) (Ev.now _))
  | d + 1, i, acc, h, ha => by
    have hi : i < rs.length := by omega
    have hb := hx rs[i] (List.getElem_mem hi)
    rw [List.drop_eq_getElem_cons hi]
    refine Ev.step (fun k => impl_gateClauses.l0.eq_2 ..) (Ev.pos (by omega) (Ev.pos (by omega) (Ev.pos (by omega) ?_)))
    rw [rdL_nat rs i hi, w1 i (by omega)]
    refine Ev.bind (cleanI_ev rs[i] (by omega) (fun x hxm => by have := hb.2 x hxm; omega)) ?_
    cases e : cln [] rs[i] with
    | none =>
      rw [List.filterMap_cons_none e]
      exact Ev.neg (by simp [clnQ]) (gcI_loop rs hl hx d (i + 1) acc (by omega) (by omega))
    | some r =>
      rw [List.filterMap_cons_some e]
      refine Ev.pos rfl (Ev.pos (by omega) ?_)
      have := gcI_loop rs hl hx d (i + 1) (acc ++ [r]) (by omega) (by simp; omega)
      rw [List.append_assoc] at this; exact this
theorem gcI_ev (l : List S69) (i : Nat) (hi : i < l.length) (hl : l.length ≤ 12) (h : gok l[i] i) : Ev (fun k => impl_gateClauses.f k l (i : Int)) (gC l[i] ((i + 1 : Nat) : Int)) := by
  have hr := gok_rng h
  have hk := gok_kind h
  have e0 : wrap64 ((i : Int) + 1) = ((i + 1 : Nat) : Int) := w1 i (by omega)
  have e1 : wrap64 (l[i].f1 + 1) = l[i].f1 + 1 := wrap_id _ (by omega) (by omega)
  have e2 : wrap64 (l[i].f2 + 1) = l[i].f2 + 1 := wrap_id _ (by omega) (by omega)
  have e3 : wrap64 (-(((i + 1 : Nat) : Int))) = -(((i + 1 : Nat) : Int)) := wrap_id _ (by omega) (by omega)
  have e4 : wrap64 (-(l[i].f1 + 1)) = -(l[i].f1 + 1) := wrap_id _ (by omega) (by omega)
  have e5 : wrap64 (-(l[i].f2 + 1)) = -(l[i].f2 + 1) := wrap_id _ (by omega) (by omega)
  have hlit := rawC_lits h hi
  have fin : ∀ rs, rs = rawC l[i] ((i + 1 : Nat) : Int) → Ev (fun k => impl_gateClauses.j0 k rs) (gC l[i] ((i + 1 : Nat) : Int)) := by
    intro rs hrs
    subst hrs
    have h4 := rawC_len l[i] ((i + 1 : Nat) : Int)
    have := gcI_loop _ (by omega) (fun c hc => ⟨(hlit c hc).1, fun x hxm => by have := (hlit c hc).2 x hxm; omega⟩) (rawC l[i] ((i + 1 : Nat) : Int)).length 0 [] (by omega) (by simp)
    rw [List.drop_zero, List.nil_append] at this
    exact Ev.step (fun k => impl_gateClauses.j0.eq_2 ..) this
  unfold impl_gateClauses.f
  refine Ev.pos (by omega) (Ev.pos (by omega) ?_)
  rw [Gateb_nat l i hi, e0, e1, e2, e3, e4, e5]
  by_cases h2 : l[i].f0 = 2
  · exact Ev.pos h2 (fin _ (by unfold rawC; rw [if_pos h2]))
  · refine Ev.neg h2 ?_
    by_cases h3 : l[i].f0 = 3
    · exact Ev.pos h3 (fin _ (by unfold rawC; rw [if_neg h2, if_pos h3]))
    · refine Ev.neg h3 ?_
      by_cases h4 : l[i].f0 = 4
      · exact Ev.pos h4 (fin _ (by unfold rawC; rw [if_neg h2, if_neg h3, if_pos h4]))
      · refine Ev.neg h4 ?_
        by_cases h5 : l[i].f0 = 5
        · exact Ev.pos h5 (fin _ (by unfold rawC; rw [if_neg h2, if_neg h3, if_neg h4, if_pos h5]))
        · exact Ev.neg h5 (fin _ (by unfold rawC; rw [if_neg h2, if_neg h3, if_neg h4, if_neg h5]))
theorem gcS_loop (rs : List (List Int)) (hl : rs.length ≤ 1000) (hx : ∀ c, c ∈ rs → c.length ≤ 3 ∧ ∀ x, x ∈ c → x ≠ 0 ∧ -12 ≤ x ∧ x ≤ 12) : ∀ (d i : Nat) (acc : List (List Int)), i + d = rs.length → acc.length ≤ i → Ev (fun k => spec_l8Clauses.l0 k acc rs (rs.length : Int) (i : Int)) (acc ++ (rs.drop i).filterMap (cln []))
  | 0, i, acc, h, ha => by
    rw [List.drop_eq_nil_of_le (by omega), List.filterMap_nil, List.append_nil]
    exact Ev.step (fun k => spec_l8Clauses.l0.eq_2 ..) (Ev.neg (by omega) (Ev.now _))
  | d + 1, i, acc, h, ha => by
    have hi : i < rs.length := by omega
    have hb := hx rs[i] (List.getElem_mem hi)
    rw [List.drop_eq_getElem_cons hi]
    refine Ev.step (fun k => spec_l8Clauses.l0.eq_2 ..) (Ev.pos (by omega) (Ev.pos (by omega) (Ev.pos (by omega) ?_)))
    rw [rdL_nat rs i hi, w1 i (by omega)]
    refine Ev.bind (cleanS_ev rs[i] (by omega) (fun x hxm => hb.2 x hxm)) ?_
    cases e : cln [] rs[i] with
    | none =>
      rw [List.filterMap_cons_none e]
      exact Ev.neg (by simp [clnQ]) (gcS_loop rs hl hx d (i + 1) acc (by omega) (by omega))
    | some r =>
      rw [List.filterMap_cons_some e]
      refine Ev.pos rfl (Ev.pos (by omega) ?_)
      have := gcS_loop rs hl hx d (i + 1) (acc ++ [r]) (by omega) (by simp; omega)
      rw [List.append_assoc] at this; exact this
theorem rawS_ev (g : S69) (i : Nat) (hi : i < 12) (h : gok g i) : spec_l8Raw.f g.f0 g.f1 g.f2 ((i + 1 : Nat) : Int) = some (rawC g ((i + 1 : Nat) : Int)) := by
  have hr := gok_rng h
  have e1 : wrap64 (g.f1 + 1) = g.f1 + 1 := wrap_id _ (by omega) (by omega)
  have e2 : wrap64 (g.f2 + 1) = g.f2 + 1 := wrap_id _ (by omega) (by omega)
  have e3 : wrap64 (-(((i + 1 : Nat) : Int))) = -(((i + 1 : Nat) : Int)) := wrap_id _ (by omega) (by omega)
  have e4 : wrap64 (-(g.f1 + 1)) = -(g.f1 + 1) := wrap_id _ (by omega) (by omega)
  have e5 : wrap64 (-(g.f2 + 1)) = -(g.f2 + 1) := wrap_id _ (by omega) (by omega)
  unfold spec_l8Raw.f rawC
  rw [e1, e2, e3, e4, e5]
  (repeat' split) <;> rfl
theorem gcS_ev (g : S69) (i : Nat) (hi : i < 12) (h : gok g i) : Ev (fun k => spec_l8Clauses.f k g.f0 g.f1 g.f2 (i : Int)) (gC g ((i + 1 : Nat) : Int)) := by
  have hlit := rawC_lits h hi
  have h4 := rawC_len g ((i + 1 : Nat) : Int)
  unfold spec_l8Clauses.f
  rw [w1 i (by omega)]
  refine Ev.bindE (rawS_ev g i hi h) ?_
  have := gcS_loop _ (by omega) (fun c hc => ⟨(hlit c hc).1, fun x hxm => by have := (hlit c hc).2 x hxm; omega⟩) (rawC g ((i + 1 : Nat) : Int)).length 0 [] (by omega) (by simp)
  rw [List.drop_zero, List.nil_append] at this
  exact this
theorem coI_loop (l : List S69) (hl : l.length ≤ 12) (hok : ∀ j (h : j < l.length), gok l[j] j) : ∀ (d i : Nat) (acc : List (List Int)), i + d = l.length → acc.length ≤ 4 * i → Ev (fun k => impl_ClausesOf.l0 k l acc (l.length : Int) (i : Int)) (acc ++ cFrom i (l.drop i) ++ [[(l.length : Int)]], true)
  | 0, i, acc, h, ha => by
    rw [List.drop_eq_nil_of_le (by omega)]
    unfold cFrom
    rw [List.append_nil]
    exact Ev.step (fun k => impl_ClausesOf.l0.eq_2 ..) (Ev.neg (by omega) (Ev.pos (by omega) (Ev.now _)))
  | d + 1, i, acc, h, ha => by
    have hi : i < l.length := by omega
    have h4 := gC_len l[i] ((i + 1 : Nat) : Int)
    rw [List.drop_eq_getElem_cons hi]
    unfold cFrom
    refine Ev.step (fun k => impl_ClausesOf.l0.eq_2 ..) (Ev.pos (by omega) (Ev.bind (gcI_ev l i hi hl (hok i hi)) (Ev.pos (by omega) ?_)))
    rw [w1 i (by omega), ← List.append_assoc acc]
    exact coI_loop l hl hok d (i + 1) (acc ++ gC l[i] ((i + 1 : Nat) : Int)) (by omega) (by rw [List.length_append]; omega)
theorem coS_loop (l : List S69) (hl : l.length ≤ 12) (hok : ∀ j (h : j < l.length), gok l[j] j) : ∀ (d i : Nat) (acc : List (List Int)), i + d = l.length → acc.length ≤ 4 * i → Ev (fun k => spec_ClausesOf.l0 k l acc l (l.length : Int) (i : Int)) (acc ++ cFrom i (l.drop i) ++ [[(l.length : Int)]], true)
  | 0, i, acc, h, ha => by
    rw [List.drop_eq_nil_of_le (by omega)]
    unfold cFrom
    rw [List.append_nil]
    exact Ev.step (fun k => spec_ClausesOf.l0.eq_2 ..) (Ev.neg (by omega) (Ev.pos (by omega) (Ev.now _)))
  | d + 1, i, acc, h, ha => by
    have hi : i < l.length := by omega
    have h4 := gC_len l[i] ((i + 1 : Nat) : Int)
    have hg := gcS_ev l[i] i (by omega) (hok i hi)
    rw [List.drop_eq_getElem_cons hi]
    unfold cFrom
    refine Ev.step (fun k => spec_ClausesOf.l0.eq_2 ..) (Ev.pos (by omega) (Ev.pos (by omega) (Ev.pos (by omega) ?_)))
    rw [Gateb_nat l i hi]
    refine Ev.bind hg (Ev.pos (by omega) ?_)
    rw [w1 i (by omega), ← List.append_assoc acc]
    exact coS_loop l hl hok d (i + 1) (acc ++ gC l[i] ((i + 1 : Nat) : Int)) (by omega) (by rw [List.length_append]; omega)
theorem exact_facts (l : List S71) (hb : l.length ≤ 1048576) (S I : Nat → Option (List (List Int) × Bool)) (c : List (List Int)) (b : Bool) (hs : Ev S (c, b)) (hi : Ev I (c, b)) (hl : c.length ≤ 1000) (hr : ∀ r, r ∈ c → r.length ≤ 1000) :
    ∃ (k : Nat) (g g' : List S69) (c' : List (List Int)) (km m : Int), g = l.map cvGate ∧ laws_toGateS.f k l = some g ∧ S k = some (c, b) ∧ I k = some (c, b) ∧ laws_eqIntSS.f k c c = some true ∧ laws_eqGateS.f k g g = some true ∧ laws_markGateS.f k g 1 = some (km, g') ∧ 0 ≤ km ∧ laws_markIntSS.f k c 1 = some (m, c') ∧ laws_heldIntSS.f k c' 1 = some m ∧ 0 ≤ m := by
  have hb' : (l.map cvGate).length ≤ 1048576 := by simpa using hb
  have ht := totSS_le 1000 c hr
  obtain ⟨K1, e1⟩ := toGateS_ev l hb
  obtain ⟨K2, e2⟩ := hs
  obtain ⟨K3, e3⟩ := hi
  obtain ⟨K4, e4⟩ := eqIntSS_self c (by omega) (fun r h => by have := hr r h; omega)
  obtain ⟨K5, e5⟩ := eqGateS_self (l.map cvGate) (by omega)
  obtain ⟨K6, e6⟩ := markGateS_ev (l.map cvGate) 1 (by omega) (by omega)
  obtain ⟨K7, e7⟩ := markIntSS_ev c 1 (by omega) (by omega) (by omega)
  obtain ⟨K8, e8⟩ := heldIntSS_ev c 1 (by omega) (by omega) (by omega)
  exact ⟨K1 + K2 + K3 + K4 + K5 + K6 + K7 + K8, _, _, _, _, _, rfl, e1 _ (by omega), e2 _ (by omega), e3 _ (by omega), e4 _ (by omega), e5 _ (by omega), e6 _ (by omega), by omega, e7 _ (by omega), e8 _ (by omega), by omega⟩
theorem FnExactClausesOf : laws_FnExactClausesOf.Pure := by
  intro l hl
  by_cases hb : l.length ≤ 1048576
  · refine ⟨_, szGateS_ok l _ (by omega) (by omega), fun _ => ?_⟩
    obtain ⟨c, b, hs, hi, h1, h2⟩ : ∃ (c : List (List Int)) (b : Bool), Ev (fun k => spec_ClausesOf.f k (l.map cvGate)) (c, b) ∧ Ev (fun k => impl_ClausesOf.f k (l.map cvGate)) (c, b) ∧ c.length ≤ 1000 ∧ ∀ r, r ∈ c → r.length ≤ 1000 := by
      have hb' : (l.map cvGate).length ≤ 1048576 := by simpa using hb
      generalize l.map cvGate = g at hb'
      obtain ⟨r, hgs, hgi, hok⟩ := goodGates_both g (by omega)
      unfold spec_ClausesOf.f impl_ClausesOf.f
      cases r with
      | false => exact ⟨[], false, Ev.bind hgs (Ev.neg (by simp) (Ev.now _)), Ev.bind hgi (Ev.neg (by simp) (Ev.now _)), by simp, fun r hr => by simp at hr⟩
      | true =>
        obtain ⟨hlen, hok0⟩ := hok rfl
        have hok : ∀ j (h : j < g.length), gok g[j] j := fun j hj => hok0 j hj (by omega)
        have hs := coS_loop g hlen.2 hok g.length 0 [] (by omega) (by simp)
        have hi := coI_loop g hlen.2 hok g.length 0 [] (by omega) (by simp)
        rw [List.drop_zero, List.nil_append] at hs hi
        refine ⟨_, true, Ev.bind hgs (Ev.pos rfl hs), Ev.bind hgi (Ev.pos rfl hi), ?_, ?_⟩
        · have := cFrom_len g 0
          rw [List.length_append, List.length_singleton]; omega
        · intro r hr
          rcases List.mem_append.1 hr with hr | hr
          · have := cFrom_rows g 0 (fun j hj => by rw [Nat.zero_add]; exact hok j hj) r hr; omega
          · rw [List.mem_singleton.1 hr]; simp
    obtain ⟨k, g, g', c', km, m, rfl, h⟩ := exact_facts l hb _ _ c b hs hi h1 h2
    exact ⟨k, _, g', c, c', b, km, m, h⟩
  · exact ⟨-1, szGateS_big l _ (by omega) (by omega) (by omega) hl.1, fun h => absurd h (by decide)⟩
end Go.Proofs.Ytgahidilhjijiaa.Pure
