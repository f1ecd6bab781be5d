import Derived.Test.YtcmhkgpalfljbaaShort
namespace Go.Proofs.YtcmhkgpalfljbaaW.PrintWords
open Go Go.RowKit Go.Proofs.YtcmhkgpalfljbaaW.PrintLast
set_option linter.unusedVariables false
structure Gof (g : Nat) (w W : World) : Prop where
  size : w.heap.size ≤ W.heap.size
  block : ∀ k, k < w.heap.size → k ≠ g → W.heap[k]? = w.heap[k]?
theorem Gof.refl (g : Nat) (w : World) : Gof g w w := ⟨Nat.le_refl _, fun _ _ _ => rfl⟩
theorem Gof.drewN {g : Nat} {w W : World} (h : Gof g w W) (n : Nat) : Gof g w (W.drewN n) := ⟨h.size, h.block⟩
theorem Gof.drew {g : Nat} {w W : World} (h : Gof g w W) : Gof g w W.drew := ⟨h.size, h.block⟩
theorem Gof.alloc {g : Nat} {w W : World} (h : Gof g w W) (o : Obj) : Gof g w (W.alloc o) := by
  have hb := below_alloc (Below.refl W.heap.size W) o
  exact ⟨Nat.le_trans h.size hb.size, fun k hk hn => (hb.block k (Nat.lt_of_lt_of_le hk h.size)).trans (h.block k hk hn)⟩
theorem Gof.put {g : Nat} {w W : World} (h : Gof g w W) (i : Nat) (r : Option Nat) (u : Value) : Gof g w (W.setCell ⟨g, i, r⟩ u) :=
  ⟨by simpa [World.setCell] using h.size, fun k hk hn => (Below.heap_setCell W ⟨g, i, r⟩ u k hn).trans (h.block k hk hn)⟩
theorem cm_ {α : Type} {d : Kd α} {A : Option Addr} {n : Nat} {xs : List α} {w W : World} (h : d.C w A n xs) (k : Below w.heap.size w W := by (with_reducible repeat (first | exact Below.refl _ _ | apply below_alloc | apply pw_below_drewN | apply below_drew1))) : d.C W A n xs :=
  Kd.C_below h k
structure Gpt (g : Nat) (cs cs' : Array Value) (w W : World) : Prop where
  size : w.heap.size ≤ W.heap.size
  block : ∀ t, w.heap[g]? = some (.cells cs t (0, 0)) → W.heap[g]? = some (.cells cs' t (0, 0))
theorem Gpt.refl (g : Nat) (cs : Array Value) (w : World) : Gpt g cs cs w w := ⟨Nat.le_refl _, fun _ h => h⟩
section
variable {g : Nat} {cs cs' : Array Value} {w W : World}
theorem Gpt.drewN (h : Gpt g cs cs' w W) (n : Nat) : Gpt g cs cs' w (W.drewN n) := ⟨h.size, h.block⟩
theorem Gpt.drew (h : Gpt g cs cs' w W) : Gpt g cs cs' w W.drew := ⟨h.size, h.block⟩
theorem Gpt.alloc (h : Gpt g cs cs' w W) (o : Obj) : Gpt g cs cs' w (W.alloc o) := by
  have hb := below_alloc (Below.refl W.heap.size W) o
  exact ⟨Nat.le_trans h.size hb.size, fun t k => blk_alloc (h.block t k) o⟩
theorem Gpt.put (h : Gpt g cs cs' w W) (i : Nat) (u : Value) : Gpt g cs (cs'.setIfInBounds i u) w (W.setCell ⟨g, i, none⟩ u) :=
  ⟨by simpa [World.setCell] using h.size, fun t k => blk_put (h.block t k) i u rfl⟩
theorem Gpt.far {b i : Nat} {r : Option Nat} (h : Gpt g cs cs' w W) (n : g ≠ b) (u : Value) : Gpt g cs cs' w (W.setCell ⟨b, i, r⟩ u) :=
  ⟨by simpa [World.setCell] using h.size, fun t k => blk_far (h.block t k) n u⟩
end
theorem bu_ {g t : Nat} {cs c1 cs' : Array Value} {w W : World} (h : w.heap[g]? = some (.cells cs t (0, 0))) (k : Gpt g cs c1 w W := by (with_reducible repeat (first | exact Gpt.refl _ _ _ | apply Gpt.alloc | apply Gpt.drewN | apply Gpt.drew | apply Gpt.put | (apply Gpt.far; case n => exact Aside0.out (by assumption))))) (e : c1 = cs' := by rfl) : W.heap[g]? = some (.cells cs' t (0, 0)) :=
  e ▸ k.block t h
theorem bb_ {w W w1 : World} {g : Nat} {o : Obj} (h : Aside0 (w.heap[g]? = some o)) (hb : Below W.heap.size W w1) (k : Grw w W := by (with_reducible repeat (first | exact Grw.refl _ | apply Grw.alloc | apply Grw.drewN | apply Grw.drew))) : Aside0 (w1.heap[g]? = some o) :=
  ⟨blk_below (bk_ h.out k) hb⟩
theorem bs_ {w W w2 : World} (k : Below W.heap.size W w2) (h : Below w.heap.size w W := by repeat (first | (with_reducible first | exact HB.out | apply below_alloc | apply pw_below_drewN | apply below_drew1 | refine below_set ?_ (Aside0.out (by assumption))) | exact HB.out)) : Aside0 (Below w.heap.size w w2) := ⟨below_step h k⟩
theorem gz_ {w W : World} {g : Nat} (e : g = W.heap.size) (h : Below w.heap.size w W := by repeat (first | (with_reducible first | exact HB.out | apply below_alloc | apply pw_below_drewN | apply below_drew1 | refine below_set ?_ (Aside0.out (by assumption))) | exact HB.out)) : Aside0 (w.heap.size ≤ g) := ⟨e ▸ below_size h⟩
theorem nl_ {w W : World} {g g' : Nat} {o : Obj} (h : Aside0 (w.heap[g]? = some o)) (e : g' = W.heap.size) (k : Grw w W := by (with_reducible repeat (first | exact Grw.refl _ | apply Grw.alloc | apply Grw.drewN | apply Grw.drew))) : Aside0 (g ≠ g') := ⟨e ▸ Nat.ne_of_lt (blk_lt (bk_ h.out k))⟩
theorem nr_ {w W : World} {g g' : Nat} {o : Obj} (h : Aside0 (w.heap[g]? = some o)) (e : g' = W.heap.size) (k : Grw w W := by (with_reducible repeat (first | exact Grw.refl _ | apply Grw.alloc | apply Grw.drewN | apply Grw.drew))) : Aside0 (g' ≠ g) := ⟨e ▸ Nat.ne_of_gt (blk_lt (bk_ h.out k))⟩
theorem am_ {p : Prop} (h : p) : Aside0 p := ⟨h⟩
theorem od_ {p : Prop} [Decidable p] (h : decide p = true := by first | (with_reducible assumption) | assumption) : p := of_decide_eq_true h
section
variable {P : Program} {ops : Array Oper} {o : Oper} {rest : List Oper} {a : Act} {W : World} {Q : Exit → Act → World → Prop}
theorem gl_ (f : FuncId) {as : Array Operand} {ts : Array TypeId} (_ho : o.op = .call { callee := .value (.func f), args := as, argTypes := ts }) (h : wpList P ops Q (o :: rest) a W) : wpList P ops Q (o :: rest) a W := h
theorem goesM_ (N : Option Tmp) {f : FuncId} {fn : Func} {as : Array Operand} {ts : Array TypeId} (hf : P.funcs[f]? = some fn) (args : Array Value)
    (h : Calls P f args W fun e w' => ∃ v, e = .returned v ∧ wpList P ops Q rest (a.put N v) w')
    (hd : o.dst = N := by rfl) (hg : o.guard = none := by rfl) (hname : (fn.name == "runtime.NumGoroutine") = false := by kernel_rfl) (hb : fn.body.isSome = true := by rfl)
    (hop : o.op = .call { callee := .value (.func f), args := as, argTypes := ts } := by rfl) (hargs : as.map a.eval = args := by (try simp only [List.map_toArray, List.map_cons, List.map_nil]); first | done | rfl | (simp only [List.length_drop, List.length_take]; rfl)) : wpList P ops Q (o :: rest) a W :=
  goesL_ N hd hg hf hname hb args hop hargs h
end
theorem y0_ {p : Prop} (h : p := by repeat (first | (with_reducible first | exact HI0.out | apply IsS68.alloc | apply IsS68.drewN | apply IsS68.drew | apply IsS68.set_1 | apply IsS68.set_2 | refine IsS68.far ?_ NB0_329.out _ | refine IsS68.far ?_ NB0_336.out _) | exact HI0.out)) : p := h
theorem y1_ {p : Prop} (h : p := by repeat (first | (with_reducible first | exact HB.out | apply below_alloc | apply pw_below_drewN | apply below_drew1 | refine below_set ?_ (IsS68.ge HI0.out) | refine below_set ?_ GE329.out | refine below_set ?_ GE336.out) | exact HB.out)) : p := h
theorem y2_ {p : Prop} (h : p := by first | (simp only [putAll, Act.put, List.setIfInBounds_toArray, List.set_cons_zero, List.set_cons_succ]; done) | (simp only [putAll, Act.put, List.setIfInBounds_toArray, List.set_cons_zero, List.set_cons_succ]; rfl)) : p := h
theorem y3_ {p : Prop} (h : p := by repeat (first | (with_reducible first | exact HK.out | apply KeepBut.set_ | apply keep_drewN | apply keep_drew | apply keep_alloc | refine keep_far ?_ GW329.out _ | refine keep_far ?_ GW336.out _) | exact HK.out)) : p := h
theorem y4_ {p : Prop} (h : p := by first | exact HK.out.1 | exact (show Kept w _ (fun k_ => P0_ k_) from by repeat (first | (with_reducible first | exact HK.out | apply Kept.alloc | apply Kept.drewN | apply Kept.drew) | exact HK.out)).1) : p := h
theorem y5_ {p : Prop} (h : p := by repeat (first | (with_reducible first | exact HK.out | apply KeepBut.set_ | apply keep_drewN | apply keep_drew | apply keep_alloc | refine keep_far ?_ GW329.out _) | exact HK.out)) : p := h
theorem y6_ {p : Prop} (h : p := by repeat (first | (with_reducible first | exact HB.out | apply below_alloc | apply pw_below_drewN | apply below_drew1 | refine below_set ?_ (IsS68.ge HI0.out)) | exact HB.out)) : p := h
theorem y7_ {p : Prop} (h : p := by repeat (first | (with_reducible first | exact HI0.out | apply IsS68.alloc | apply IsS68.drewN | apply IsS68.drew | apply IsS68.set_1 | apply IsS68.set_2) | exact HI0.out)) : p := h
theorem y8_ {p : Prop} (h : p := by first | exact HS.out | exact HS.out.below (by repeat (first | exact Below.refl _ _ | apply below_drew1 | apply pw_below_drewN | apply below_alloc))) : p := h
theorem y9_ {p : Prop} (h : p := by repeat (first | (with_reducible first | exact HK.out | apply KeepBut.set_ | apply keep_drewN | apply keep_drew | apply keep_alloc) | exact HK.out)) : p := h
theorem y10_ {p : Prop} (h : p := by repeat (first | (with_reducible first | exact HB3.out | apply below_alloc | apply pw_below_drewN | apply below_drew1) | exact HB3.out)) : p := h
theorem y11_ {p : Prop} (h : p := by repeat (first | (with_reducible first | exact HK.out | apply Kept.alloc | apply Kept.drewN | apply Kept.drew) | exact HK.out)) : p := h
theorem y12_ {p : Prop} (h : p := by repeat (first | exact Below.refl _ _ | apply below_drew1 | apply pw_below_drewN | apply below_alloc)) : p := h
theorem y13_ {p : Prop} (h : p := by rw [hg]; exact Nat.ne_of_lt (blk_lt (show _ from bk_ BK2.out))) : p := h
theorem y14_ {p : Prop} (h : p := by first | rfl | (simp; done) | (simp [*]; done)) : p := h
theorem y15_ {p : Prop} (h : p := by rw [hw]; exact below_set (HB.out) GB7.out) : p := h
theorem y16_ {p : Prop} (h : p := by rw [hg]; exact (below_size (bq_))) : p := h
theorem y17_ {p : Prop} (h : p := by rw [hr_.out] at H; exact H) : p := h
theorem y18_ {p : Prop} (h : p := by have := hlt.out; omega) : p := h
theorem y19_ {p : Prop} (h : p := by simp [Value.oneCell']) : p := h
end Go.Proofs.YtcmhkgpalfljbaaW.PrintWords
