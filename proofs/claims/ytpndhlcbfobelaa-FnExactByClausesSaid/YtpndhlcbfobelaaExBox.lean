import Derived.Test.YtpndhlcbfobelaaEx
import Derived.Laws.Tables
import Derived.Laws.Rows
import Derived.Great.BuildSlice
import Derived.Deep.QuietTactic
import Derived.Deep.DeepCutAuto
namespace Go.Proofs.YtpndhlcbfobelaaW.PrintWords
open Go Go.RowKit Go.Proofs.YtpndhlcbfobelaaW.PrintLast Go.Proofs.YtpndhlcbfobelaaW.PrintMore
set_option linter.unusedVariables false
def BoxT (g : Nat) (cs : Array Value) (t : TypeId) : World → Prop := fun W => W.heap[g]? = some (.cells cs t (0, 0))
theorem Ex.cell {w W : World} {L : List Seg} (h : Ex w W L) (i j : Nat) {lo hi g : Nat} {t : TypeId} {cs : Array Value} {v : Value} (e : L[i]? = some ⟨lo, hi, BoxT g cs t⟩) (ej : cs[j]? = some v) : W.cell? ⟨g, j, none⟩ = some v := (blk_cell (h.now i e) j).trans ej
section
variable {P : Program} {ops : Array Oper} {rest : List Oper} {o : Oper} {a : Act} {Q : Exit → Act → World → Prop} {w W : World} {L : List Seg}
theorem ex_box (HX : Aside0 (Ex w W L)) {N : Tmp} {cs : Array Value} {t : TypeId}
    (h : ∀ g hi W', Aside0 (g < hi) → Aside0 (Ex w W' (⟨g, hi, BoxT g cs t⟩ :: L)) → wpList P ops Q rest (a.put o.dst (.pointer (some ⟨g, 0, none⟩))) W')
    (hgd : o.guard = none := by rfl) (hd : o.dst = some N := by rfl)
    (hrun : (execOp a.eval o).run P W = .ok (.value (.pointer (some ⟨W.heap.size, 0, none⟩))) (W.alloc (.cells cs t (0, 0))) := by first | (go_simp; done) | (go_simp; rfl)) : wpList P ops Q (o :: rest) a W :=
  box_event hgd hd hrun fun g hg W1 hbox hb => by
    subst hg
    exact h W.heap.size W1.heap.size W1 ⟨blk_lt hbox⟩ ⟨HX.out.made hb (BoxT W.heap.size cs t) (fun W'' hW => (hW _ (Nat.le_refl _) (blk_lt hbox)).trans hbox)⟩
theorem ex_store (HX : Aside0 (Ex w W L)) {T : TypeId} {p : Tmp} {y : Operand} (_ho : o.op = .store T (.tmp p) y) (i : Nat) {g hi : Nat} {t : TypeId} {old : Array Value} (cells : Array Value)
    (hl : L[i]? = some ⟨g, hi, BoxT g old t⟩) (hgh : g < hi) (hi2 : (P.info? T).map (·.size) = some cells.size)
    (h : ∀ W', Aside0 (Ex w W' (L.set i ⟨g, hi, BoxT g cells t⟩)) → wpList P ops Q rest a W')
    (hgd : o.guard = none := by rfl) (hd : o.dst = none := by rfl) (hx : a.eval (.tmp p) = .pointer (some ⟨g, 0, none⟩) := by rfl) (hy : a.eval y = .agg cells := by rfl)
    (hold : old.size = cells.size := by rfl) (h1 : cells.all (·.oneCell') = true := by simp [Value.oneCell']) : wpList P ops Q (o :: rest) a W := by
  have hb : W.heap[g]? = some (.cells old t (0, 0)) := HX.out.now i hl
  have hg := (HX.out.seg _ (List.mem_of_getElem? hl)).1
  have hbl : Below w.heap.size w (W.setRow g cells) := ⟨HX.out.below.os, HX.out.below.tape, HX.out.below.output, by rw [setRow_size]; exact HX.out.below.size, fun k hk => (setRow_other W g k cells (by have : w.heap.size ≤ g := hg; omega)).trans (HX.out.below.block k hk)⟩
  have hk : Kept W (W.setRow g cells) (fun k => k = g) := ⟨by rw [setRow_size]; exact Nat.le_refl _, fun k _ hn => setRow_other W g k cells hn⟩
  exact wpList_store_rowTo hgd T (.tmp p) y _ho hd g cells hx hy t old hb hi2 hold h1 (h _ ⟨HX.out.wrote i hl hbl hk (fun k hkg => by subst hkg; exact ⟨Nat.le_refl _, hgh⟩) (BoxT g cells t) (fun W'' hW => (hW g (Nat.le_refl _) hgh).trans (setRow_heap W g old cells t _ hb))⟩)
end
end Go.Proofs.YtpndhlcbfobelaaW.PrintWords
