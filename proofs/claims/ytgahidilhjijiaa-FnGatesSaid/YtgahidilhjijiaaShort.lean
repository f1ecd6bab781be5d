import Derived.Test.YtgahidilhjijiaaWMore
namespace Go.Proofs.YtgahidilhjijiaaW.PrintWords
open Go Go.RowKit Go.Proofs.YtgahidilhjijiaaW.PrintLast
set_option linter.unusedVariables false
theorem bq_ {w W : World} (h : Below w.heap.size w W := by repeat (first | (with_reducible first | exact HB.out | apply below_alloc | apply pw_below_drewN | apply below_drew1 | refine below_set ?_ (Aside0.out (by assumption))) | exact HB.out)) : Below w.heap.size w W := h
structure Grw (w W : World) : Prop where
  size : w.heap.size ≤ W.heap.size
  block : ∀ k, k < w.heap.size → W.heap[k]? = w.heap[k]?
theorem Grw.refl (w : World) : Grw w w := ⟨Nat.le_refl _, fun _ _ => rfl⟩
theorem Grw.drewN {w W : World} (h : Grw w W) (n : Nat) : Grw w (W.drewN n) := ⟨h.size, h.block⟩
theorem Grw.drew {w W : World} (h : Grw w W) : Grw w W.drew := ⟨h.size, h.block⟩
theorem Grw.alloc {w W : World} (h : Grw w W) (o : Obj) : Grw w (W.alloc o) := by
  have hb := below_alloc (Below.refl W.heap.size W) o
  exact ⟨Nat.le_trans h.size hb.size, fun k hk => (hb.block k (Nat.lt_of_lt_of_le hk h.size)).trans (h.block k hk)⟩
theorem rq_ {α : Type} {d : Kd α} {e base : Nat} {ok : Nat → Prop} {v : Value} {xs : List α} {w W : World} (h : d.R e w base ok v xs) (k : Grw w W := by (with_reducible repeat (first | exact Grw.refl _ | apply Grw.alloc | apply Grw.drewN | apply Grw.drew))) : d.R e W base ok v xs :=
  Kd.R_step h (fun i _ hi => k.block i hi)
theorem bk_ {w W : World} {g : Nat} {o : Obj} (h : w.heap[g]? = some o) (k : Grw w W := by (with_reducible repeat (first | exact Grw.refl _ | apply Grw.alloc | apply Grw.drewN | apply Grw.drew))) : W.heap[g]? = some o :=
  (k.block g (blk_lt h)).trans h
theorem cq_ {w : World} {g : Nat} {t : TypeId} {cs : Array Value} (h : w.heap[g]? = some (.cells cs t (0, 0))) (j : Nat) (v : Value) (e : cs[j]? = some v := by rfl) : w.cell? ⟨g, j, none⟩ = some v :=
  (blk_cell h j).trans e
section
variable {P : Program} {ops : Array Oper} {o : Oper} {rest : List Oper} {a : Act} {Q : Exit → Act → World → Prop}
theorem boxq_ {W : World} {N : Tmp} {cs : Array Value} {t : TypeId}
    (h : ∀ g, g = W.heap.size → ∀ w1, w1.heap[g]? = some (.cells cs t (0, 0)) → Below W.heap.size W w1 → wpList P ops Q rest (a.put o.dst (.pointer (some ⟨g, 0, none⟩))) w1)
    (hgd : o.guard = none := by rfl) (hd : o.dst = some N := by rfl)
    (hrun : (execOp a.eval o).run P W = .ok (.value (.pointer (some ⟨W.heap.size, 0, none⟩))) (W.alloc (.cells cs t (0, 0))) := by first | (go_simp; done) | (go_simp; rfl)) : wpList P ops Q (o :: rest) a W :=
  box_event hgd hd hrun h
end
end Go.Proofs.YtgahidilhjijiaaW.PrintWords
