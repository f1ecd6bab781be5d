import Derived.Test.YtpndhlcbfobelaaWMore
import Derived.Test.YtpndhlcbfobelaaWApart
import Derived.Test.YtpndhlcbfobelaaWKept
import Derived.Test.YtpndhlcbfobelaaWN
namespace Go.Proofs.YtpndhlcbfobelaaW.PrintWords
open Go Go.RowKit Go.Proofs.YtpndhlcbfobelaaW.PrintLast Go.Proofs.YtpndhlcbfobelaaW.PrintMore
set_option linter.unusedVariables false
structure Seg where
  lo : Nat
  hi : Nat
  T : World → Prop
def Seg.at (s : Seg) (W : World) : Prop := ∀ W' : World, (∀ k, s.lo ≤ k → k < s.hi → W'.heap[k]? = W.heap[k]?) → s.T W'
structure Ex (w W : World) (L : List Seg) : Prop where
  below : Below w.heap.size w W
  seg : ∀ s ∈ L, w.heap.size ≤ s.lo ∧ s.hi ≤ W.heap.size ∧ s.at W
  apart : L.Pairwise (fun a b => b.hi ≤ a.lo)
theorem Ex.refl (w : World) : Ex w w [] := ⟨Below.refl _ _, fun s hs => by simp at hs, List.Pairwise.nil⟩
theorem Ex.call {w W W' : World} {L : List Seg} (h : Ex w W L) (hb : Below W.heap.size W W') : Ex w W' L :=
  ⟨below_step h.below hb, fun s hs => ⟨(h.seg s hs).1, Nat.le_trans (h.seg s hs).2.1 hb.size, fun W'' hW => (h.seg s hs).2.2 W'' (fun k h1 h2 => (hW k h1 h2).trans (hb.block k (Nat.lt_of_lt_of_le h2 (h.seg s hs).2.1)))⟩, h.apart⟩
theorem Ex.made {w W W' : World} {L : List Seg} (h : Ex w W L) (hb : Below W.heap.size W W') (T : World → Prop) (hT : ∀ W'' : World, (∀ k, W.heap.size ≤ k → k < W'.heap.size → W''.heap[k]? = W'.heap[k]?) → T W'') : Ex w W' (⟨W.heap.size, W'.heap.size, T⟩ :: L) := by
  have h' := h.call hb
  refine ⟨h'.below, fun s hs => ?_, List.Pairwise.cons (fun s hs => (h.seg s hs).2.1) h'.apart⟩
  rcases List.mem_cons.1 hs with rfl | hs
  · exact ⟨h.below.size, Nat.le_refl _, hT⟩
  · exact h'.seg s hs
theorem Ex.now {w W : World} {L : List Seg} (h : Ex w W L) (i : Nat) {s : Seg} (e : L[i]? = some s) : s.T W := (h.seg s (List.mem_of_getElem? e)).2.2 W (fun _ _ _ => rfl)
theorem pw_at {α : Type} {R : α → α → Prop} : ∀ {L : List α}, L.Pairwise R → ∀ (i j : Nat) {a b : α}, L[i]? = some a → L[j]? = some b → i < j → R a b
  | x :: L, h, 0, j + 1, a, b, ha, hb, _ => by cases ha; exact (List.pairwise_cons.1 h).1 _ (List.mem_of_getElem? hb)
  | x :: L, h, i + 1, j + 1, a, b, ha, hb, hl => pw_at (List.pairwise_cons.1 h).2 i j ha hb (by omega)
theorem pw_set {R : Seg → Seg → Prop} {x y : Seg} (h1 : ∀ z, R z x → R z y) (h2 : ∀ z, R x z → R y z) : ∀ {L : List Seg} (i : Nat), L.Pairwise R → L[i]? = some x → (L.set i y).Pairwise R
  | z :: L, 0, h, e => by cases e; exact List.pairwise_cons.2 ⟨fun b hb => h2 b ((List.pairwise_cons.1 h).1 b hb), (List.pairwise_cons.1 h).2⟩
  | z :: L, i + 1, h, e => by
    refine List.pairwise_cons.2 ⟨fun b hb => ?_, pw_set h1 h2 i (List.pairwise_cons.1 h).2 e⟩
    rcases List.mem_or_eq_of_mem_set hb with hb | rfl
    · exact (List.pairwise_cons.1 h).1 b hb
    · exact h1 z ((List.pairwise_cons.1 h).1 x (List.mem_of_getElem? e))
theorem Ex.wrote {w W W' : World} {L : List Seg} (h : Ex w W L) (i : Nat) {lo hi : Nat} {T : World → Prop} (e : L[i]? = some ⟨lo, hi, T⟩) {P0 : Nat → Prop} (hb : Below w.heap.size w W') (hk : Kept W W' P0) (hP : ∀ k, P0 k → lo ≤ k ∧ k < hi) (T' : World → Prop) (hT : ∀ W'' : World, (∀ k, lo ≤ k → k < hi → W''.heap[k]? = W'.heap[k]?) → T' W'') : Ex w W' (L.set i ⟨lo, hi, T'⟩) := by
  have hm := h.seg _ (List.mem_of_getElem? e)
  refine ⟨hb, fun s hs => ?_, pw_set (x := ⟨lo, hi, T⟩) (y := ⟨lo, hi, T'⟩) (fun _ hz => hz) (fun _ hz => hz) i h.apart e⟩
  obtain ⟨j, hj, ej⟩ := List.getElem_of_mem hs
  rw [List.length_set] at hj
  by_cases hij : i = j
  · subst hij
    rw [List.getElem_set_self] at ej
    subst ej
    exact ⟨hm.1, Nat.le_trans hm.2.1 hk.1, hT⟩
  · rw [List.getElem_set_ne hij] at ej
    have ej' : L[j]? = some s := by rw [List.getElem?_eq_getElem hj, ej]
    have hs' := h.seg s (List.mem_of_getElem? ej')
    refine ⟨hs'.1, Nat.le_trans hs'.2.1 hk.1, fun W'' hW => hs'.2.2 W'' (fun k h1 h2 => (hW k h1 h2).trans (hk.2 k (Nat.lt_of_lt_of_le h2 hs'.2.1) (fun hp => ?_)))⟩
    have hr := hP k hp
    rcases Nat.lt_or_gt_of_ne hij with hl | hl
    · have : s.hi ≤ lo := pw_at h.apart i j e ej' hl
      omega
    · have : hi ≤ s.lo := pw_at h.apart j i ej' e hl
      omega
theorem Ex.of_N {α : Type} {d : Kd α} {e base n c : Nat} {ok : Nat → Prop} {W W' : World} {A : Option Addr} {xs : List α} (h : Kd.N d e W' base ok (.slice A n c) xs) (hok : ∀ k, ok k → W.heap.size ≤ k) (W'' : World) (hW : ∀ k, W.heap.size ≤ k → k < W'.heap.size → W''.heap[k]? = W'.heap[k]?) : d.C W'' A xs.length xs :=
  (Kd.N_reads' (Kd.N_step h (fun k hk hl => hW k (hok k hk) hl))).2.2
theorem Ex.of_R {α : Type} {d : Kd α} {e b : Nat} {W W' : World} {v : Value} {xs : List α} (h : d.R e W' W.heap.size (fun _ => True) v xs) (hb : b ≤ W.heap.size) (W'' : World) (hW : ∀ k, W.heap.size ≤ k → k < W'.heap.size → W''.heap[k]? = W'.heap[k]?) : d.R e W'' b (fun k => W.heap.size ≤ k ∧ k < W'.heap.size) v xs :=
  Kd.R_lower (Kd.R_step (Kd.R_mono (Kd.R_bound h) (fun k hk => ⟨hk.2.1, hk.2.2.1⟩)) (fun k hk _ => hW k hk.1 hk.2)) hb
theorem Ex.of_S {α : Type} {d : Kd α} {e b : Nat} {W W' : World} {v : Value} {xs : List α} (h : Kd.S d e W' W.heap.size (fun _ => True) v xs) (hb : b ≤ W.heap.size) (W'' : World) (hW : ∀ k, W.heap.size ≤ k → k < W'.heap.size → W''.heap[k]? = W'.heap[k]?) : Kd.S d e W'' b (fun k => W.heap.size ≤ k ∧ k < W'.heap.size) v xs :=
  Kd.S_lower (Kd.S_step (Kd.S_mono (Kd.S_bound h) (fun k hk => ⟨hk.2.1, hk.2.2.1⟩)) (fun k hk _ => hW k hk.1 hk.2)) hb
end Go.Proofs.YtpndhlcbfobelaaW.PrintWords
