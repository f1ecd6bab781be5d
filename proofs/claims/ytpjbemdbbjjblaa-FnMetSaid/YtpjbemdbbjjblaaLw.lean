/- Proved here: words for the walk of a law: which boxes of the call's own hold what, and since which worlds nothing older has changed; each event (a call, a new box, a store) hands this on. Conditions: as each says. -/
import Derived.Test.YtpjbemdbbjjblaaWMore
import Derived.Laws.Tables
import Derived.Laws.Rows
import Derived.Great.BuildSlice
import Derived.Deep.QuietTactic
import Derived.Deep.DeepCutAuto
namespace Go.Proofs.YtpjbemdbbjjblaaW.LawWords
open Go Go.RowKit Go.Proofs.YtpjbemdbbjjblaaW.PrintWords Go.Proofs.YtpjbemdbbjjblaaW.PrintLast Go.Proofs.YtpjbemdbbjjblaaW.PrintMore
set_option linter.unusedVariables false

/-- What a law's walk keeps: a box and what it holds; a world since which nothing older than it has changed. -/
inductive It where
  | box (g : Nat) (o : Obj)
  | mark (W : World)
def It.under (g : Nat) : It → Prop
  | .box g' _ => g' < g
  | .mark W1 => W1.heap.size ≤ g
def Its (W : World) : List It → Prop
  | [] => True
  | .box g o :: l => W.heap[g]? = some o ∧ (∀ p ∈ l, p.under g) ∧ Its W l
  | .mark W1 :: l => Below W1.heap.size W1 W ∧ Its W l
structure St (w W : World) (l : List It) : Prop where
  below : Below w.heap.size w W
  base : ∀ p ∈ l, ∀ g o, p = .box g o → w.heap.size ≤ g
  its : Its W l

theorem Its.below {W W' : World} (hb : Below W.heap.size W W') : ∀ {l : List It}, Its W l → Its W' l
  | [], _ => trivial
  | .box g o :: l, h => ⟨blk_below h.1 hb, h.2.1, Its.below hb h.2.2⟩
  | .mark W1 :: l, h => ⟨below_step h.1 hb, Its.below hb h.2⟩
theorem Its.under {W : World} : ∀ {l : List It}, Its W l → ∀ p ∈ l, p.under W.heap.size
  | .box g o :: l, h, p, hp => by
    rcases List.mem_cons.1 hp with rfl | hp
    · exact blk_lt h.1
    · exact Its.under h.2.2 p hp
  | .mark W1 :: l, h, p, hp => by
    rcases List.mem_cons.1 hp with rfl | hp
    · exact h.1.size
    · exact Its.under h.2 p hp
theorem Its.at {W : World} : ∀ {l : List It} (i : Nat) {g : Nat} {o : Obj}, Its W l → l[i]? = some (.box g o) → W.heap[g]? = some o
  | .box g' o' :: l, 0, g, o, h, e => by cases e; exact h.1
  | .mark W1 :: l, 0, g, o, h, e => by cases e
  | .box g' o' :: l, i + 1, g, o, h, e => Its.at i h.2.2 e
  | .mark W1 :: l, i + 1, g, o, h, e => Its.at i h.2 e
theorem Its.since {W : World} : ∀ {l : List It} (i : Nat) {W1 : World}, Its W l → l[i]? = some (.mark W1) → Below W1.heap.size W1 W
  | .mark W' :: l, 0, W1, h, e => by cases e; exact h.1
  | .box g o :: l, 0, W1, h, e => by cases e
  | .box g' o' :: l, i + 1, W1, h, e => Its.since i h.2.2 e
  | .mark W' :: l, i + 1, W1, h, e => Its.since i h.2 e

theorem St.refl (w : World) : St w w [] := ⟨Below.refl _ _, fun p hp => by simp at hp, trivial⟩
/-- A call that leaves what is older as it was. -/
theorem St.call {w W W' : World} {l : List It} (h : St w W l) (hb : Below W.heap.size W W') : St w W' l := ⟨below_step h.below hb, h.base, h.its.below hb⟩
theorem St.drewN {w W : World} {l : List It} (h : St w W l) (n : Nat) : St w (W.drewN n) l := h.call (pw_below_drewN (Below.refl _ _) n)
theorem St.drew {w W : World} {l : List It} (h : St w W l) : St w W.drew l := h.call (below_drew (Below.refl _ _))
theorem drewn_st {w W W' : World} {l : List It} (h : St w W l) {n : Nat} (e : W.drewN n = W') : St w W' l := e ▸ h.drewN n
theorem St.mark {w W : World} {l : List It} (h : St w W l) : St w W (.mark W :: l) :=
  ⟨h.below, fun p hp g o e => by
    rcases List.mem_cons.1 hp with rfl | hp
    · cases e
    · exact h.base p hp g o e, Below.refl _ _, h.its⟩
theorem St.box {w W W' : World} {l : List It} {g : Nat} {o : Obj} (h : St w W l) (hg : g = W.heap.size) (hbox : W'.heap[g]? = some o) (hb : Below W.heap.size W W') : St w W' (.box g o :: l) :=
  ⟨below_step h.below hb, fun p hp g' o' e => by
    rcases List.mem_cons.1 hp with rfl | hp
    · cases e; rw [hg]; exact h.below.size
    · exact h.base p hp g' o' e, hbox, fun p hp => by rw [hg]; exact h.its.under p hp, h.its.below hb⟩
theorem St.at {w W : World} {l : List It} (h : St w W l) (i : Nat) {g : Nat} {o : Obj} (e : l[i]? = some (.box g o)) : W.heap[g]? = some o := h.its.at i e
theorem St.since {w W : World} {l : List It} (h : St w W l) (i : Nat) {W1 : World} (e : l[i]? = some (.mark W1)) : Below W1.heap.size W1 W := h.its.since i e
theorem St.cell {w W : World} {l : List It} (h : St w W l) (i j : Nat) {g : Nat} {cs : Array Value} {t : TypeId} {v : Value} (e : l[i]? = some (.box g (.cells cs t (0, 0)))) (ej : cs[j]? = some v) : W.cell? ⟨g, j, none⟩ = some v := (blk_cell (h.at i e) j).trans ej
theorem St.free {w W : World} {l : List It} (h : St w W l) (i j : Nat) {g : Nat} {cs : Array Value} {t : TypeId} (e : l[i]? = some (.box g (.cells cs t (0, 0)))) : W.frozen? ⟨g, j, none⟩ = false := blk_frozen (h.at i e) j
/-- Less is kept. -/
theorem St.drop {w W : World} {p : It} {l : List It} (h : St w W (p :: l)) : St w W l :=
  ⟨h.below, fun q hq => h.base q (List.mem_cons_of_mem _ hq), match p, h.its with
    | .box _ _, x => x.2.2
    | .mark _, x => x.2⟩

theorem St.nil {w W : World} {l : List It} (h : St w W l) : St w W [] := ⟨h.below, fun p hp => by simp at hp, trivial⟩
/-- Items without a mark. -/
def boxes : List It → Bool
  | [] => true
  | .box _ _ :: l => boxes l
  | .mark _ :: _ => false
theorem below_row {W W1 : World} {g : Nat} {cs : Array Value} (h : Below W1.heap.size W1 W) (hg : W1.heap.size ≤ g) : Below W1.heap.size W1 (W.setRow g cs) :=
  ⟨h.os, h.tape, h.output, by rw [setRow_size]; exact h.size, fun k hk => (setRow_other W g k cs (by omega)).trans (h.block k hk)⟩
theorem Its.older {W : World} {g : Nat} {cs : Array Value} : ∀ {l : List It}, Its W l → (∀ p ∈ l, p.under g) → Its (W.setRow g cs) l
  | [], _, _ => trivial
  | .box g' o' :: l, h, hu => by
    have : g' < g := hu _ (List.mem_cons_self ..)
    exact ⟨(setRow_other W g g' cs (by omega)).trans h.1, h.2.1, Its.older h.2.2 (fun p hp => hu p (List.mem_cons_of_mem _ hp))⟩
  | .mark W1 :: l, h, hu => ⟨below_row h.1 (hu _ (List.mem_cons_self ..)), Its.older h.2 (fun p hp => hu p (List.mem_cons_of_mem _ hp))⟩
theorem Its.put {W : World} {g : Nat} {old cs : Array Value} {t : TypeId} : ∀ {l : List It} (i : Nat), Its W l → l[i]? = some (.box g (.cells old t (0, 0))) → boxes (l.take i) = true → Its (W.setRow g cs) (l.set i (.box g (.cells cs t (0, 0))))
  | .box g' o' :: l, 0, h, e, _ => by
    cases e
    exact ⟨setRow_heap W g old cs t _ h.1, h.2.1, Its.older h.2.2 h.2.1⟩
  | .mark W1 :: l, 0, h, e, _ => by cases e
  | .mark W1 :: l, i + 1, h, e, hb => by simp [boxes] at hb
  | .box g' o' :: l, i + 1, h, e, hb => by
    have hm : It.box g (.cells old t (0, 0)) ∈ l := List.mem_of_getElem? e
    have hlt : g < g' := h.2.1 _ hm
    refine ⟨(setRow_other W g g' cs (by omega)).trans h.1, fun p hp => ?_, Its.put i h.2.2 e (by simpa [boxes] using hb)⟩
    rcases List.mem_or_eq_of_mem_set hp with hp | rfl
    · exact h.2.1 p hp
    · exact hlt
theorem St.put {w W : World} {l : List It} (h : St w W l) (i : Nat) {g : Nat} {old cs : Array Value} {t : TypeId} (e : l[i]? = some (.box g (.cells old t (0, 0)))) (hb : boxes (l.take i) = true) : St w (W.setRow g cs) (l.set i (.box g (.cells cs t (0, 0)))) :=
  ⟨below_row h.below (h.base _ (List.mem_of_getElem? e) _ _ rfl), fun p hp g' o' ep => by
    rcases List.mem_or_eq_of_mem_set hp with hp | rfl
    · exact h.base p hp g' o' ep
    · cases ep; exact h.base _ (List.mem_of_getElem? e) _ _ rfl, h.its.put i e hb⟩

/-- A frame's slots, by number. -/
def usOf (a : Act) : Nat → Value := fun i => a.tmps.getD i undef
/-- The ways through a statement meet: the frame is told at the slots that are read later, the others hold something. -/
theorem meet_us {J : Act → World → Prop} {F : (Nat → Value) → Act} {T : World → Prop} {a : Act} {w : World} (hJ : ∀ a' w', (∃ us : Nat → Value, a' = F us ∧ T w') → J a' w') (e : a = F (usOf a)) (h : T w) : Met J a w := hJ _ _ ⟨usOf a, e, h⟩
/-- A callee that only draws, inside a region that draws. -/
theorem quiet_drawn {P : Program} {f : FuncId} {args : Array Value} {w : World} {n : Nat} {v : Value} (h : Calls P f args (w.drewN n) fun e w' => e = .returned v ∧ Drawn0 (w.drewN n) w') :
    Calls P f args (w.drewN n) fun e w'' => e = .returned v ∧ ∃ m, w'' = w.drewN m := Calls.quiet_of (h.mono fun _ _ x => ⟨x.1, x.2.out⟩)
section
variable {P : Program} {ops : Array Oper} {rest : List Oper} {o : Oper} {a : Act} {Q : Exit → Act → World → Prop} {w W : World} {l : List It}
/-- A call by its contract. -/
theorem st_call (HS : Aside0 (St w W l)) {n : FuncId} {args : Array Value} {v : Value} {K : Ending → World → Prop} (hc : Calls P n args W fun e w' => e = .returned v ∧ Below W.heap.size W w')
    (h : ∀ W', Aside0 (St w W' l) → K (.returned v) W') : Calls P n args W K :=
  hc.mono fun _ _ ⟨he, hb⟩ => he ▸ h _ ⟨HS.out.call hb⟩
/-- A new box. -/
theorem st_box (HS : Aside0 (St w W l)) {N : Tmp} {cs : Array Value} {t : TypeId}
    (h : ∀ g W', Aside0 (St w W' (.box g (.cells cs t (0, 0)) :: l)) → wpList P ops Q rest (a.put o.dst (.pointer (some ⟨g, 0, none⟩))) W')
    (hgd : o.guard = none := by rfl) (hd : o.dst = some N := by rfl)
    (hrun : (execOp a.eval o).run P W = .ok (.value (.pointer (some ⟨W.heap.size, 0, none⟩))) (W.alloc (.cells cs t (0, 0))) := by first | (go_simp; done) | (go_simp; rfl)) : wpList P ops Q (o :: rest) a W :=
  box_event hgd hd hrun fun g hg W1 hbox hb => h g W1 ⟨HS.out.box hg hbox hb⟩
/-- A store of a whole struct into its box. -/
theorem st_store (HS : Aside0 (St w W l)) {T : TypeId} {p : Tmp} {y : Operand} (_ho : o.op = .store T (.tmp p) y) (i : Nat) {g : Nat} {t : TypeId} {old : Array Value} (cells : Array Value)
    (hl : l[i]? = some (.box g (.cells old t (0, 0)))) (hi : (P.info? T).map (·.size) = some cells.size)
    (h : ∀ W', Aside0 (St w W' (l.set i (.box g (.cells cells t (0, 0))))) → wpList P ops Q rest a W')
    (hgd : o.guard = none := by rfl) (hd : o.dst = none := by rfl) (hx : a.eval (.tmp p) = .pointer (some ⟨g, 0, none⟩) := by rfl) (hy : a.eval y = .agg cells := by rfl)
    (hold : old.size = cells.size := by rfl) (h1 : cells.all (·.oneCell') = true := by simp [Value.oneCell']) (hb : boxes (l.take i) = true := by rfl) : wpList P ops Q (o :: rest) a W :=
  wpList_store_rowTo hgd T (.tmp p) y _ho hd g cells hx hy t old (HS.out.at i hl) hi hold h1 (h _ ⟨HS.out.put i hl hb⟩)
/-- A load of a whole struct out of its box. -/
theorem st_load (HS : Aside0 (St w W l)) {T : TypeId} {p : Tmp} (_ho : o.op = .load T (.tmp p)) (i : Nat) {g : Nat} {t : TypeId} {cs : Array Value} {d : TypeDesc}
    (hl : l[i]? = some (.box g (.cells cs t (0, 0)))) (hu : P.underlying T = some d) (hi : (P.info? T).map (·.size) = some cs.size)
    (h : wpList P ops Q rest (a.put o.dst (.agg cs)) W)
    (hgd : o.guard = none := by rfl) (hx : a.eval (.tmp p) = .pointer (some ⟨g, 0, none⟩) := by rfl)
    (hd : (match d with | .struct _ | .array _ _ => true | _ => false) = true := by rfl) : wpList P ops Q (o :: rest) a W :=
  wpList_load_row hgd T (.tmp p) _ho g hx t cs (0, 0) d (HS.out.at i hl) hu hd hi h
end
end Go.Proofs.YtpjbemdbbjjblaaW.LawWords
