import Derived.StillTailTactics
import Derived.BigRegion
import Derived.RegionTactic
import Derived.Laws.Tables
import Derived.Laws.Rows
import Derived.Great.BuildSlice
import Derived.Deep.QuietTactic
import Derived.BigQuiet
import Derived.Test.YtcmhkgpalfljbaaPPAx0
import Derived.Test.YtcmhkgpalfljbaaPPAx14
namespace Go.Proofs.Ytcmhkgpalfljbaa.PPA
open Go.RowKit Go.Proofs.YtcmhkgpalfljbaaW.PrintWords Go.Proofs.YtcmhkgpalfljbaaW.PrintLast Go.Proofs.YtcmhkgpalfljbaaW.PrintMore
attribute [local go_sem] max2_int min2_int max_two min_two max_three min_three max_four min_four   -- for this text's walks alone
set_option linter.unusedVariables false
set_option linter.unusedSimpArgs false
def impl_run.Mch (b g gr gc gs cr cc cs : Nat) (a : Int) (R C : List Int) (S : List Bool) (W : World) : Prop :=
 W.heap[g]? = some (.cells #[.int .i64 a, .slice (some ⟨gr, 0, none⟩) 6 cr, .slice (some ⟨gc, 0, none⟩) 16 cc, .slice (some ⟨gs, 0, none⟩) 16 cs] 81 (0, 0)) ∧
 Kd.R (Kd.int .i64) 3 W b (fun k => k = gr) (.slice (some ⟨gr, 0, none⟩) 6 cr) R ∧ Kd.R (Kd.int .i64) 3 W b (fun k => k = gc) (.slice (some ⟨gc, 0, none⟩) 16 cc) C ∧ Kd.R Kd.bool 4 W b (fun k => k = gs) (.slice (some ⟨gs, 0, none⟩) 16 cs) S
structure impl_run.Ap (g gr gc gs : Nat) : Prop where
 a : g ≠ gr
 b : g ≠ gc
 c : g ≠ gs
 d : gr ≠ gc
 e : gr ≠ gs
 f : gc ≠ gs
theorem impl_run.Mch.step {b g gr gc gs cr cc cs : Nat} {a : Int} {R C : List Int} {S : List Bool} {W W' : World} (h : impl_run.Mch b g gr gc gs cr cc cs a R C S W) (hm : ∀ k, (k = g ∨ k = gr ∨ k = gc ∨ k = gs) → k < W.heap.size → W'.heap[k]? = W.heap[k]?) : impl_run.Mch b g gr gc gs cr cc cs a R C S W' :=
 ⟨(hm g (.inl rfl) (blk_lt h.1)).trans h.1, Kd.R_step h.2.1 (fun k hk hl => hm k (.inr (.inl hk)) hl), Kd.R_step h.2.2.1 (fun k hk hl => hm k (.inr (.inr (.inl hk))) hl), Kd.R_step h.2.2.2 (fun k hk hl => hm k (.inr (.inr (.inr hk))) hl)⟩
structure impl_run.Stp (w W0 : World) (g gr gc gs cr cc cs g8 : Nat) (s : S51) (a : Int) (R C : List Int) (S : List Bool) (W : World) : Prop where
 m : impl_run.Mch w.heap.size g gr gc gs cr cc cs a R C S W
 k : Kept W0 W (fun k => k = g ∨ k = gr ∨ k = gc ∨ k = gs)
 bl : Below w.heap.size w W
 st : W.heap[g8]? = some (.cells #[.int .i64 s.f0, .int .i64 s.f1, .int .i64 s.f2, .int .i64 s.f3, .int .i64 s.f4, .int .i64 s.f5] 51 (0, 0))
 ap : impl_run.Ap g gr gc gs
 n8 : g8 ≠ g ∧ g8 ≠ gr ∧ g8 ≠ gc ∧ g8 ≠ gs
 ge : w.heap.size ≤ g
 g0 : W0.heap.size ≤ g8
 w0 : w.heap.size ≤ W0.heap.size
section
variable {w W0 W W' : World} {g gr gc gs cr cc cs g8 : Nat} {s : S51} {a : Int} {R C : List Int} {S : List Bool}
theorem impl_run.Stp.call (h : impl_run.Stp w W0 g gr gc gs cr cc cs g8 s a R C S W) (hb : Below W.heap.size W W') : impl_run.Stp w W0 g gr gc gs cr cc cs g8 s a R C S W' :=
 ⟨h.m.step (fun k _ hl => hb.block k hl), h.k.below hb, below_step h.bl hb, blk_below h.st hb, h.ap, h.n8, h.ge, h.g0, h.w0⟩
theorem impl_run.Stp.drewN (h : impl_run.Stp w W0 g gr gc gs cr cc cs g8 s a R C S W) (n : Nat) : impl_run.Stp w W0 g gr gc gs cr cc cs g8 s a R C S (W.drewN n) := h.call (pw_below_drewN (Below.refl _ _) n)
theorem impl_run.Stp.drew (h : impl_run.Stp w W0 g gr gc gs cr cc cs g8 s a R C S W) : impl_run.Stp w W0 g gr gc gs cr cc cs g8 s a R C S W.drew := h.call (below_drew (Below.refl _ _))
theorem impl_run.Stp.putR (h : impl_run.Stp w W0 g gr gc gs cr cc cs g8 s a R C S W) (i x : Int) : impl_run.Stp w W0 g gr gc gs cr cc cs g8 s a (R.set i.toNat x) C S (W.setCell ⟨gr, i.toNat, none⟩ (.int .i64 x)) :=
 ⟨⟨blk_far h.m.1 h.ap.a _, Kd.R_putn h.m.2.1 i x, Kd.R_far h.m.2.2.1 (p := ⟨gr, i.toNat, none⟩) (fun k hk e => h.ap.d (e.symm.trans hk)) _, Kd.R_far h.m.2.2.2 (p := ⟨gr, i.toNat, none⟩) (fun k hk e => h.ap.e (e.symm.trans hk)) _⟩, h.k.setCell (.inl (.inr (.inl rfl))) _, below_set h.bl (Kd.R_base h.m.2.1 gr rfl), blk_far h.st h.n8.2.1 _, h.ap, h.n8, h.ge, h.g0, h.w0⟩
theorem impl_run.Stp.putC (h : impl_run.Stp w W0 g gr gc gs cr cc cs g8 s a R C S W) (i x : Int) : impl_run.Stp w W0 g gr gc gs cr cc cs g8 s a R (C.set i.toNat x) S (W.setCell ⟨gc, i.toNat, none⟩ (.int .i64 x)) :=
 ⟨⟨blk_far h.m.1 h.ap.b _, Kd.R_far h.m.2.1 (p := ⟨gc, i.toNat, none⟩) (fun k hk e => h.ap.d (hk.symm.trans e)) _, Kd.R_putn h.m.2.2.1 i x, Kd.R_far h.m.2.2.2 (p := ⟨gc, i.toNat, none⟩) (fun k hk e => h.ap.f (e.symm.trans hk)) _⟩, h.k.setCell (.inl (.inr (.inr (.inl rfl)))) _, below_set h.bl (Kd.R_base h.m.2.2.1 gc rfl), blk_far h.st h.n8.2.2.1 _, h.ap, h.n8, h.ge, h.g0, h.w0⟩
theorem impl_run.Stp.putS (h : impl_run.Stp w W0 g gr gc gs cr cc cs g8 s a R C S W) (i : Int) (x : Bool) : impl_run.Stp w W0 g gr gc gs cr cc cs g8 s a R C (S.set i.toNat x) (W.setCell ⟨gs, i.toNat, none⟩ (.bool x)) :=
 ⟨⟨blk_far h.m.1 h.ap.c _, Kd.R_far h.m.2.1 (p := ⟨gs, i.toNat, none⟩) (fun k hk e => h.ap.e (hk.symm.trans e)) _, Kd.R_far h.m.2.2.1 (p := ⟨gs, i.toNat, none⟩) (fun k hk e => h.ap.f (hk.symm.trans e)) _, Kd.R_putn h.m.2.2.2 i x⟩, h.k.setCell (.inl (.inr (.inr (.inr rfl)))) _, below_set h.bl (Kd.R_base h.m.2.2.2 gs rfl), blk_far h.st h.n8.2.2.2 _, h.ap, h.n8, h.ge, h.g0, h.w0⟩
theorem impl_run.Stp.putA (h : impl_run.Stp w W0 g gr gc gs cr cc cs g8 s a R C S W) (x : Int) : impl_run.Stp w W0 g gr gc gs cr cc cs g8 s x R C S (W.setCell ⟨g, 0, none⟩ (.int .i64 x)) :=
 ⟨⟨blk_put h.m.1 0 _ rfl, Kd.R_far h.m.2.1 (p := ⟨g, 0, none⟩) (fun k hk e => h.ap.a (e.symm.trans hk)) _, Kd.R_far h.m.2.2.1 (p := ⟨g, 0, none⟩) (fun k hk e => h.ap.b (e.symm.trans hk)) _, Kd.R_far h.m.2.2.2 (p := ⟨g, 0, none⟩) (fun k hk e => h.ap.c (e.symm.trans hk)) _⟩, h.k.setCell (.inl (.inl rfl)) _, below_set h.bl h.ge, blk_far h.st h.n8.1 _, h.ap, h.n8, h.ge, h.g0, h.w0⟩
theorem impl_run.Stp.c8 (h : impl_run.Stp w W0 g gr gc gs cr cc cs g8 s a R C S W) (j : Nat) {v : Value} (e : (#[.int .i64 s.f0, .int .i64 s.f1, .int .i64 s.f2, .int .i64 s.f3, .int .i64 s.f4, .int .i64 s.f5] : Array Value)[j]? = some v) : W.cell? ⟨g8, j, none⟩ = some v := (blk_cell h.st j).trans e
theorem impl_run.Stp.cg (h : impl_run.Stp w W0 g gr gc gs cr cc cs g8 s a R C S W) (j : Nat) {v : Value} (e : (#[.int .i64 a, .slice (some ⟨gr, 0, none⟩) 6 cr, .slice (some ⟨gc, 0, none⟩) 16 cc, .slice (some ⟨gs, 0, none⟩) 16 cs] : Array Value)[j]? = some v) : W.cell? ⟨g, j, none⟩ = some v := (blk_cell h.m.1 j).trans e
theorem impl_run.Stp.cr_ (h : impl_run.Stp w W0 g gr gc gs cr cc cs g8 s a R C S W) (i : Int) (h0 : 0 ≤ i) (h1 : i < 6) : W.cell? ⟨gr, i.toNat, none⟩ = some (.int .i64 (rd R i)) := (Kd.R_celln 0 h.m.2.1 i h0 h1).1
theorem impl_run.Stp.cc_ (h : impl_run.Stp w W0 g gr gc gs cr cc cs g8 s a R C S W) (i : Int) (h0 : 0 ≤ i) (h1 : i < 16) : W.cell? ⟨gc, i.toNat, none⟩ = some (.int .i64 (rd C i)) := (Kd.R_celln 0 h.m.2.2.1 i h0 h1).1
theorem impl_run.Stp.cs_ (h : impl_run.Stp w W0 g gr gc gs cr cc cs g8 s a R C S W) (i : Int) (h0 : 0 ≤ i) (h1 : i < 16) : W.cell? ⟨gs, i.toNat, none⟩ = some (.bool (rdOf false S i)) := (Kd.R_celln false h.m.2.2.2 i h0 h1).1
theorem impl_run.Stp.fr (h : impl_run.Stp w W0 g gr gc gs cr cc cs g8 s a R C S W) (j : Nat) : W.frozen? ⟨g, j, none⟩ = false ∧ W.frozen? ⟨gr, j, none⟩ = false ∧ W.frozen? ⟨gc, j, none⟩ = false ∧ W.frozen? ⟨gs, j, none⟩ = false := by
 refine ⟨blk_frozen h.m.1 j, ?_, ?_, ?_⟩
 ·obtain ⟨cells, hc⟩ := Kd.R_typed h.m.2.1 gr rfl; exact blk_frozen hc j
 ·obtain ⟨cells, hc⟩ := Kd.R_typed h.m.2.2.1 gc rfl; exact blk_frozen hc j
 ·obtain ⟨cells, hc⟩ := Kd.R_typed h.m.2.2.2 gs rfl; exact blk_frozen hc j
theorem impl_run.Stp.new (hm : impl_run.Mch w.heap.size g gr gc gs cr cc cs a R C S W0) (ha : impl_run.Ap g gr gc gs) (hge : w.heap.size ≤ g) (hB : Below w.heap.size w W0) (hg : g8 = W0.heap.size) (hbox : W.heap[g8]? = some (.cells #[.int .i64 0, .int .i64 0, .int .i64 0, .int .i64 0, .int .i64 0, .int .i64 0] 51 (0, 0))) (hb : Below W0.heap.size W0 W) : impl_run.Stp w W0 g gr gc gs cr cc cs g8 z51 a R C S W :=
 ⟨hm.step (fun k _ hl => hb.block k hl), Kept.of_below hb _, below_step hB hb, hbox, ha, by
  have h1 := blk_lt hm.1
  have h2 := Kd.R_lt hm.2.1 gr rfl
  have h3 := Kd.R_lt hm.2.2.1 gc rfl
  have h4 := Kd.R_lt hm.2.2.2 gs rfl
  omega, hge, by omega, hB.size⟩
theorem impl_run.Stp.row (h : impl_run.Stp w W0 g gr gc gs cr cc cs g8 s a R C S W) (s' : S51) : impl_run.Stp w W0 g gr gc gs cr cc cs g8 s' a R C S (W.setRow g8 #[.int .i64 s'.f0, .int .i64 s'.f1, .int .i64 s'.f2, .int .i64 s'.f3, .int .i64 s'.f4, .int .i64 s'.f5]) := by
 have hw : w.heap.size ≤ g8 := Nat.le_trans h.w0 h.g0
 have hn := h.n8
 exact ⟨h.m.step (fun k hk _ => setRow_other W g8 k _ (by omega)), h.k.then_ (S2 := fun k => k = g8) ⟨by rw [setRow_size]; exact Nat.le_refl _, fun k _ hn => setRow_other W g8 k _ hn⟩ (fun k hk => .inr (by rw [hk]; exact h.g0)), ⟨h.bl.os, h.bl.tape, h.bl.output, by rw [setRow_size]; exact h.bl.size, fun k hk => (setRow_other W g8 k _ (by omega)).trans (h.bl.block k hk)⟩, setRow_heap W g8 _ _ _ _ h.st, h.ap, h.n8, h.ge, h.g0, h.w0⟩
end
theorem impl_run.sz51 : (Try.prog.info? 51).map (·.size) = some 6 := by kernel_rfl
def impl_run.stp (s : S51) (ctx : List Int) (a : Int) (R C : List Int) (S : List Bool) : Option (Int × Bool × Int × List Int × List Int × List Bool) :=
 if s.f0 = 1 then (impl_do.f s.f1 (rd R s.f2) (rd R s.f3)).bind fun t => some (0, false, wrap64 (a + 1), R.set s.f2.toNat t, C, S)
 else if s.f0 = 2 then (impl_do.f s.f1 (rd R s.f2) s.f4).bind fun t => some (0, false, wrap64 (a + 1), R.set s.f2.toNat t, C, S)
 else if s.f0 = 3 ∨ s.f0 = 4 then some (0, false, wrap64 (a + 1), R.set s.f2.toNat s.f4, C, S)
 else if s.f0 = 5 then (if wrap64 (rd R s.f3 + s.f4) ≥ 8 then some (1, false, a, R, C, S) else if 0 ≤ wrap64 (rd R s.f3 + s.f4) then some (0, false, wrap64 (a + 1), R.set s.f2.toNat (rd ctx (wrap64 (rd R s.f3 + s.f4))), C, S) else none)
 else if s.f0 = 7 then (if s.f4 ≥ 16 then some (2, false, a, R, C, S) else some (0, false, wrap64 (a + 1), R, C.set s.f4.toNat (rd R s.f2), S.set s.f4.toNat true))
 else if s.f0 = 6 then (if s.f4 ≥ 16 then some (2, false, a, R, C, S) else if rdOf false S s.f4 = true then some (0, false, wrap64 (a + 1), R.set s.f2.toNat (rd C s.f4), C, S) else some (3, false, a, R, C, S))
 else if s.f0 = 11 then some (0, true, a, R, C, S)
 else if s.f0 = 8 then some (0, false, wrap64 (wrap64 (a + 1) + s.f5), R, C, S)
 else if s.f0 = 9 then some (0, false, (if rd R s.f2 = rd R s.f3 then wrap64 (wrap64 (a + 1) + s.f5) else wrap64 (a + 1)), R, C, S)
 else if s.f0 = 10 then some (0, false, (if rd R s.f2 < rd R s.f3 then wrap64 (wrap64 (a + 1) + s.f5) else wrap64 (a + 1)), R, C, S)
 else none
def impl_run.okS (s : S51) : Prop := 0 ≤ s.f2 ∧ s.f2 < 6 ∧ 0 ≤ s.f3 ∧ s.f3 < 6 ∧ 0 ≤ s.f4
set_option maxHeartbeats 8000000 in
set_option maxRecDepth 100000 in
theorem impl_run.step_k1 (w W0 : World) (g gr gc gs cr cc cs : Nat) (a : Int) (R C : List Int) (S : List Bool) (A0 : Option Addr) (c0 : Nat) (l0 : List S51) (A1 : Option Addr) (c1 : Nat) (l1 : List Int) (s : S51) (hm : impl_run.Mch w.heap.size g gr gc gs cr cc cs a R C S W0) (ha : impl_run.Ap g gr gc gs) (hge : w.heap.size ≤ g) (hB : Below w.heap.size w W0) (hr0 : Kd.C k51 w A0 l0.length l0) (hr1 : Kd.C (Kd.int .i64) w A1 l1.length l1) (h8 : l1.length = 8) (h0 : 0 ≤ a) (h1 : a < (l0.length : Int)) (hs : rd_T51 l0 a = s) (hv : impl_run.okS s) (hk : s.f0 = 1) (t : Int) (hdo : impl_do.f s.f1 (rd R s.f2) (rd R s.f3) = some t) :
  Calls Try.prog 83 #[.pointer (some ⟨g, 0, none⟩), .slice A0 l0.length c0, .slice A1 l1.length c1] W0 fun e W => e = .returned (.tuple #[.int .i64 0, .bool false]) ∧ impl_run.Mch w.heap.size g gr gc gs cr cc cs (wrap64 (a + 1)) (R.set s.f2.toNat t) C S W ∧ Below w.heap.size w W ∧ Kept W0 W (fun k => k = g ∨ k = gr ∨ k = gc ∨ k = gs) := by
 have hu51 := Try.underlying51
 obtain ⟨ad, e206, hx0, hx1, hx2, hx3, hx4, hx5⟩ := at_T51 (Kd.C_below hr0 hB) a h0 h1
 subst e206
 rw [hs] at hx0 hx1 hx2 hx3 hx4 hx5
 clear hs
 have p0 := eq_true h0
 have q0 := eq_true h1
 have cz0 := cq_ hm.1 0 (.int .i64 a)
 have cz1 := cq_ hm.1 1 (.slice (some ⟨gr, 0, none⟩) 6 cr)
 have HM := am_ hm
 have HB := am_ hB
 have HA1 := am_ hr1
 have HV := am_ hv
 clear hm hr0 h0 h1 hr1 hB hv
 replace hk := am_ hk
 replace h8 := am_ h8
 replace hdo := am_ hdo
 go_enter Try.func83, Try.ntmps83
 go_upto_region 4 with (first | ((with_reducible refine gate_dst (N := 8) rfl ?_); refine boxq_ (N := 8) (cs := #[.int .i64 0, .int .i64 0, .int .i64 0, .int .i64 0, .int .i64 0, .int .i64 0]) (t := 51) ?_; intro g8 hg w6 hbox hb; have HS := am_ (impl_run.Stp.new HM.out ha hge HB.out hg hbox hb); clear HM HB hg hbox hb) | ((with_reducible refine gate_store (t := 51) (p := 8) rfl ?_); refine wpList_store_rowTo rfl 51 (.tmp 8) (.tmp 18) rfl rfl g8 #[.int .i64 s.f0, .int .i64 s.f1, .int .i64 s.f2, .int .i64 s.f3, .int .i64 s.f4, .int .i64 s.f5] rfl rfl 51 _ HS.out.st impl_run.sz51 rfl y19_ ?_; have n0_ := am_ (HS.out.row s); clear HS; generalize World.setRow _ _ _ = W1 at n0_ ⊢; have HS := n0_; clear n0_ cz0 cz1 hx0 hx1 hx2 hx3 hx4 hx5; have cz0 := HS.out.cg 0 (v := .int .i64 a) rfl; have cz1 := HS.out.cg 1 (v := .slice (some ⟨gr, 0, none⟩) 6 cr) rfl))
 clear p0 q0 cz0 cz1
 have k1 : (s.f0 == 1) = true := by rw [hk.out]; rfl
 have z0 := HS.out.c8 0 (v := .int .i64 s.f0) rfl
 go_upto_region 8 with (fail)
 clear z0
 have z1 := HS.out.c8 1 (v := .int .i64 s.f1) rfl
 have z2 := HS.out.c8 2 (v := .int .i64 s.f2) rfl
 have z3 := HS.out.c8 3 (v := .int .i64 s.f3) rfl
 have p2 := eq_true HV.out.1
 have q2 := eq_true HV.out.2.1
 have y2 := HS.out.cr_ _ HV.out.1 HV.out.2.1
 have p3 := eq_true HV.out.2.2.1
 have q3 := eq_true HV.out.2.2.2.1
 have y3 := HS.out.cr_ _ HV.out.2.2.1 HV.out.2.2.2.1
 go_still_tail 17, (by kernel_rfl)
 still_call ((impl_do.still s.f1 (rd R s.f2) (rd R s.f3) t _ hdo.out).mono (fun _ _ h_ => h_))
 repeat still_step
 refine wpStill_nil ?_
 change wpList _ _ _ _ _ W1.drew
 have n0_ := am_ HS.out.drew
 clear HS z1 z2 y2 z3 y3
 have HS := n0_
 clear n0_
 generalize W1.drew = W2 at HS ⊢
 have y2 := HS.out.cr_ _ HV.out.1 HV.out.2.1
 have f2 := (HS.out.fr s.f2.toNat).2.1
 go_upto_region 32 with ((with_reducible refine gate_store (t := 3) (p := 86) rfl ?_); refine store_event (t := 3) (p := 86) (v := ?vo) (w1 := W2.setCell ⟨gr, s.f2.toNat, none⟩ (.int .i64 t)) ?hg ?ho ?hn ?hr ?_; (case ho => rfl); (case hg => rfl); (case hn => rfl); (case hr => first | (go_simp; done) | (go_simp; rfl)); intro W3 hw; have n0_ := am_ (HS.out.putR s.f2 t); rw [← hw] at n0_; clear HS hw y2 f2; have HS := n0_; clear n0_)
 have cz0 := HS.out.cg 0 (v := .int .i64 a) rfl
 have f0 := (HS.out.fr 0).1
 go_wp2
 go_ret2
 exact ⟨rfl, (HS.out.putA (wrap64 (a + 1))).m, (HS.out.putA (wrap64 (a + 1))).bl, (HS.out.putA (wrap64 (a + 1))).k⟩
set_option maxHeartbeats 8000000 in
set_option maxRecDepth 100000 in
theorem impl_run.step_k2 (w W0 : World) (g gr gc gs cr cc cs : Nat) (a : Int) (R C : List Int) (S : List Bool) (A0 : Option Addr) (c0 : Nat) (l0 : List S51) (A1 : Option Addr) (c1 : Nat) (l1 : List Int) (s : S51) (hm : impl_run.Mch w.heap.size g gr gc gs cr cc cs a R C S W0) (ha : impl_run.Ap g gr gc gs) (hge : w.heap.size ≤ g) (hB : Below w.heap.size w W0) (hr0 : Kd.C k51 w A0 l0.length l0) (hr1 : Kd.C (Kd.int .i64) w A1 l1.length l1) (h8 : l1.length = 8) (h0 : 0 ≤ a) (h1 : a < (l0.length : Int)) (hs : rd_T51 l0 a = s) (hv : impl_run.okS s) (hk : s.f0 = 2) (t : Int) (hdo : impl_do.f s.f1 (rd R s.f2) s.f4 = some t) :
  Calls Try.prog 83 #[.pointer (some ⟨g, 0, none⟩), .slice A0 l0.length c0, .slice A1 l1.length c1] W0 fun e W => e = .returned (.tuple #[.int .i64 0, .bool false]) ∧ impl_run.Mch w.heap.size g gr gc gs cr cc cs (wrap64 (a + 1)) (R.set s.f2.toNat t) C S W ∧ Below w.heap.size w W ∧ Kept W0 W (fun k => k = g ∨ k = gr ∨ k = gc ∨ k = gs) := by
 have hu51 := Try.underlying51
 obtain ⟨ad, e206, hx0, hx1, hx2, hx3, hx4, hx5⟩ := at_T51 (Kd.C_below hr0 hB) a h0 h1
 subst e206
 rw [hs] at hx0 hx1 hx2 hx3 hx4 hx5
 clear hs
 have p0 := eq_true h0
 have q0 := eq_true h1
 have cz0 := cq_ hm.1 0 (.int .i64 a)
 have cz1 := cq_ hm.1 1 (.slice (some ⟨gr, 0, none⟩) 6 cr)
 have HM := am_ hm
 have HB := am_ hB
 have HA1 := am_ hr1
 have HV := am_ hv
 clear hm hr0 h0 h1 hr1 hB hv
 replace hk := am_ hk
 replace h8 := am_ h8
 replace hdo := am_ hdo
 go_enter Try.func83, Try.ntmps83
 go_upto_region 4 with (first | ((with_reducible refine gate_dst (N := 8) rfl ?_); refine boxq_ (N := 8) (cs := #[.int .i64 0, .int .i64 0, .int .i64 0, .int .i64 0, .int .i64 0, .int .i64 0]) (t := 51) ?_; intro g8 hg w6 hbox hb; have HS := am_ (impl_run.Stp.new HM.out ha hge HB.out hg hbox hb); clear HM HB hg hbox hb) | ((with_reducible refine gate_store (t := 51) (p := 8) rfl ?_); refine wpList_store_rowTo rfl 51 (.tmp 8) (.tmp 18) rfl rfl g8 #[.int .i64 s.f0, .int .i64 s.f1, .int .i64 s.f2, .int .i64 s.f3, .int .i64 s.f4, .int .i64 s.f5] rfl rfl 51 _ HS.out.st impl_run.sz51 rfl y19_ ?_; have n0_ := am_ (HS.out.row s); clear HS; generalize World.setRow _ _ _ = W1 at n0_ ⊢; have HS := n0_; clear n0_ cz0 cz1 hx0 hx1 hx2 hx3 hx4 hx5; have cz0 := HS.out.cg 0 (v := .int .i64 a) rfl; have cz1 := HS.out.cg 1 (v := .slice (some ⟨gr, 0, none⟩) 6 cr) rfl))
 clear p0 q0 cz0 cz1
 have k1 : (s.f0 == 1) = false := by rw [hk.out]; rfl
 have k2 : (s.f0 == 2) = true := by rw [hk.out]; rfl
 have z0 := HS.out.c8 0 (v := .int .i64 s.f0) rfl
 go_upto_region 10 with (fail)
 clear z0
 have z1 := HS.out.c8 1 (v := .int .i64 s.f1) rfl
 have z2 := HS.out.c8 2 (v := .int .i64 s.f2) rfl
 have z4 := HS.out.c8 4 (v := .int .i64 s.f4) rfl
 have p2 := eq_true HV.out.1
 have q2 := eq_true HV.out.2.1
 have y2 := HS.out.cr_ _ HV.out.1 HV.out.2.1
 go_still_tail 14, (by kernel_rfl)
 still_call ((impl_do.still s.f1 (rd R s.f2) s.f4 t _ hdo.out).mono (fun _ _ h_ => h_))
 repeat still_step
 refine wpStill_nil ?_
 change wpList _ _ _ _ _ W1.drew
 have n0_ := am_ HS.out.drew
 clear HS z1 z2 y2 z4
 have HS := n0_
 clear n0_
 generalize W1.drew = W2 at HS ⊢
 have y2 := HS.out.cr_ _ HV.out.1 HV.out.2.1
 have f2 := (HS.out.fr s.f2.toNat).2.1
 go_upto_region 32 with ((with_reducible refine gate_store (t := 3) (p := 102) rfl ?_); refine store_event (t := 3) (p := 102) (v := ?vo) (w1 := W2.setCell ⟨gr, s.f2.toNat, none⟩ (.int .i64 t)) ?hg ?ho ?hn ?hr ?_; (case ho => rfl); (case hg => rfl); (case hn => rfl); (case hr => first | (go_simp; done) | (go_simp; rfl)); intro W3 hw; have n0_ := am_ (HS.out.putR s.f2 t); rw [← hw] at n0_; clear HS hw y2 f2; have HS := n0_; clear n0_)
 have cz0 := HS.out.cg 0 (v := .int .i64 a) rfl
 have f0 := (HS.out.fr 0).1
 go_wp2
 go_ret2
 exact ⟨rfl, (HS.out.putA (wrap64 (a + 1))).m, (HS.out.putA (wrap64 (a + 1))).bl, (HS.out.putA (wrap64 (a + 1))).k⟩
set_option maxHeartbeats 8000000 in
set_option maxRecDepth 100000 in
theorem impl_run.step_k3 (w W0 : World) (g gr gc gs cr cc cs : Nat) (a : Int) (R C : List Int) (S : List Bool) (A0 : Option Addr) (c0 : Nat) (l0 : List S51) (A1 : Option Addr) (c1 : Nat) (l1 : List Int) (s : S51) (hm : impl_run.Mch w.heap.size g gr gc gs cr cc cs a R C S W0) (ha : impl_run.Ap g gr gc gs) (hge : w.heap.size ≤ g) (hB : Below w.heap.size w W0) (hr0 : Kd.C k51 w A0 l0.length l0) (hr1 : Kd.C (Kd.int .i64) w A1 l1.length l1) (h8 : l1.length = 8) (h0 : 0 ≤ a) (h1 : a < (l0.length : Int)) (hs : rd_T51 l0 a = s) (hv : impl_run.okS s) (hk : s.f0 = 3) :
  Calls Try.prog 83 #[.pointer (some ⟨g, 0, none⟩), .slice A0 l0.length c0, .slice A1 l1.length c1] W0 fun e W => e = .returned (.tuple #[.int .i64 0, .bool false]) ∧ impl_run.Mch w.heap.size g gr gc gs cr cc cs (wrap64 (a + 1)) (R.set s.f2.toNat s.f4) C S W ∧ Below w.heap.size w W ∧ Kept W0 W (fun k => k = g ∨ k = gr ∨ k = gc ∨ k = gs) := by
 have hu51 := Try.underlying51
 obtain ⟨ad, e206, hx0, hx1, hx2, hx3, hx4, hx5⟩ := at_T51 (Kd.C_below hr0 hB) a h0 h1
 subst e206
 rw [hs] at hx0 hx1 hx2 hx3 hx4 hx5
 clear hs
 have p0 := eq_true h0
 have q0 := eq_true h1
 have cz0 := cq_ hm.1 0 (.int .i64 a)
 have cz1 := cq_ hm.1 1 (.slice (some ⟨gr, 0, none⟩) 6 cr)
 have HM := am_ hm
 have HB := am_ hB
 have HA1 := am_ hr1
 have HV := am_ hv
 clear hm hr0 h0 h1 hr1 hB hv
 replace hk := am_ hk
 replace h8 := am_ h8
 go_enter Try.func83, Try.ntmps83
 go_upto_region 4 with (first | ((with_reducible refine gate_dst (N := 8) rfl ?_); refine boxq_ (N := 8) (cs := #[.int .i64 0, .int .i64 0, .int .i64 0, .int .i64 0, .int .i64 0, .int .i64 0]) (t := 51) ?_; intro g8 hg w6 hbox hb; have HS := am_ (impl_run.Stp.new HM.out ha hge HB.out hg hbox hb); clear HM HB hg hbox hb) | ((with_reducible refine gate_store (t := 51) (p := 8) rfl ?_); refine wpList_store_rowTo rfl 51 (.tmp 8) (.tmp 18) rfl rfl g8 #[.int .i64 s.f0, .int .i64 s.f1, .int .i64 s.f2, .int .i64 s.f3, .int .i64 s.f4, .int .i64 s.f5] rfl rfl 51 _ HS.out.st impl_run.sz51 rfl y19_ ?_; have n0_ := am_ (HS.out.row s); clear HS; generalize World.setRow _ _ _ = W1 at n0_ ⊢; have HS := n0_; clear n0_ cz0 cz1 hx0 hx1 hx2 hx3 hx4 hx5; have cz0 := HS.out.cg 0 (v := .int .i64 a) rfl; have cz1 := HS.out.cg 1 (v := .slice (some ⟨gr, 0, none⟩) 6 cr) rfl))
 clear p0 q0 cz0 cz1
 have k1 : (s.f0 == 1) = false := by rw [hk.out]; rfl
 have k2 : (s.f0 == 2) = false := by rw [hk.out]; rfl
 have k3 : (s.f0 == 3) = true := by rw [hk.out]; rfl
 have z0 := HS.out.c8 0 (v := .int .i64 s.f0) rfl
 go_upto_region 13 with (fail)
 clear z0
 have z2 := HS.out.c8 2 (v := .int .i64 s.f2) rfl
 have z4 := HS.out.c8 4 (v := .int .i64 s.f4) rfl
 have p2 := eq_true HV.out.1
 have q2 := eq_true HV.out.2.1
 have y2 := HS.out.cr_ _ HV.out.1 HV.out.2.1
 have f2 := (HS.out.fr s.f2.toNat).2.1
 go_upto_region 32 with ((with_reducible refine gate_store (t := 3) (p := 111) rfl ?_); refine store_event (t := 3) (p := 111) (v := ?vo) (w1 := W1.setCell ⟨gr, s.f2.toNat, none⟩ (.int .i64 s.f4)) ?hg ?ho ?hn ?hr ?_; (case ho => rfl); (case hg => rfl); (case hn => rfl); (case hr => first | (go_simp; done) | (go_simp; rfl)); intro W3 hw; have n0_ := am_ (HS.out.putR s.f2 s.f4); rw [← hw] at n0_; clear HS hw y2 f2; have HS := n0_; clear n0_)
 clear z2 z4
 have cz0 := HS.out.cg 0 (v := .int .i64 a) rfl
 have f0 := (HS.out.fr 0).1
 go_wp2
 go_ret2
 exact ⟨rfl, (HS.out.putA (wrap64 (a + 1))).m, (HS.out.putA (wrap64 (a + 1))).bl, (HS.out.putA (wrap64 (a + 1))).k⟩
set_option maxHeartbeats 8000000 in
set_option maxRecDepth 100000 in
theorem impl_run.step_k4 (w W0 : World) (g gr gc gs cr cc cs : Nat) (a : Int) (R C : List Int) (S : List Bool) (A0 : Option Addr) (c0 : Nat) (l0 : List S51) (A1 : Option Addr) (c1 : Nat) (l1 : List Int) (s : S51) (hm : impl_run.Mch w.heap.size g gr gc gs cr cc cs a R C S W0) (ha : impl_run.Ap g gr gc gs) (hge : w.heap.size ≤ g) (hB : Below w.heap.size w W0) (hr0 : Kd.C k51 w A0 l0.length l0) (hr1 : Kd.C (Kd.int .i64) w A1 l1.length l1) (h8 : l1.length = 8) (h0 : 0 ≤ a) (h1 : a < (l0.length : Int)) (hs : rd_T51 l0 a = s) (hv : impl_run.okS s) (hk : s.f0 = 4) :
  Calls Try.prog 83 #[.pointer (some ⟨g, 0, none⟩), .slice A0 l0.length c0, .slice A1 l1.length c1] W0 fun e W => e = .returned (.tuple #[.int .i64 0, .bool false]) ∧ impl_run.Mch w.heap.size g gr gc gs cr cc cs (wrap64 (a + 1)) (R.set s.f2.toNat s.f4) C S W ∧ Below w.heap.size w W ∧ Kept W0 W (fun k => k = g ∨ k = gr ∨ k = gc ∨ k = gs) := by
 have hu51 := Try.underlying51
 obtain ⟨ad, e206, hx0, hx1, hx2, hx3, hx4, hx5⟩ := at_T51 (Kd.C_below hr0 hB) a h0 h1
 subst e206
 rw [hs] at hx0 hx1 hx2 hx3 hx4 hx5
 clear hs
 have p0 := eq_true h0
 have q0 := eq_true h1
 have cz0 := cq_ hm.1 0 (.int .i64 a)
 have cz1 := cq_ hm.1 1 (.slice (some ⟨gr, 0, none⟩) 6 cr)
 have HM := am_ hm
 have HB := am_ hB
 have HA1 := am_ hr1
 have HV := am_ hv
 clear hm hr0 h0 h1 hr1 hB hv
 replace hk := am_ hk
 replace h8 := am_ h8
 go_enter Try.func83, Try.ntmps83
 go_upto_region 4 with (first | ((with_reducible refine gate_dst (N := 8) rfl ?_); refine boxq_ (N := 8) (cs := #[.int .i64 0, .int .i64 0, .int .i64 0, .int .i64 0, .int .i64 0, .int .i64 0]) (t := 51) ?_; intro g8 hg w6 hbox hb; have HS := am_ (impl_run.Stp.new HM.out ha hge HB.out hg hbox hb); clear HM HB hg hbox hb) | ((with_reducible refine gate_store (t := 51) (p := 8) rfl ?_); refine wpList_store_rowTo rfl 51 (.tmp 8) (.tmp 18) rfl rfl g8 #[.int .i64 s.f0, .int .i64 s.f1, .int .i64 s.f2, .int .i64 s.f3, .int .i64 s.f4, .int .i64 s.f5] rfl rfl 51 _ HS.out.st impl_run.sz51 rfl y19_ ?_; have n0_ := am_ (HS.out.row s); clear HS; generalize World.setRow _ _ _ = W1 at n0_ ⊢; have HS := n0_; clear n0_ cz0 cz1 hx0 hx1 hx2 hx3 hx4 hx5; have cz0 := HS.out.cg 0 (v := .int .i64 a) rfl; have cz1 := HS.out.cg 1 (v := .slice (some ⟨gr, 0, none⟩) 6 cr) rfl))
 clear p0 q0 cz0 cz1
 have k1 : (s.f0 == 1) = false := by rw [hk.out]; rfl
 have k2 : (s.f0 == 2) = false := by rw [hk.out]; rfl
 have k3 : (s.f0 == 3) = false := by rw [hk.out]; rfl
 have k4 : (s.f0 == 4) = true := by rw [hk.out]; rfl
 have z0 := HS.out.c8 0 (v := .int .i64 s.f0) rfl
 go_upto_region 13 with (fail)
 clear z0
 have z2 := HS.out.c8 2 (v := .int .i64 s.f2) rfl
 have z4 := HS.out.c8 4 (v := .int .i64 s.f4) rfl
 have p2 := eq_true HV.out.1
 have q2 := eq_true HV.out.2.1
 have y2 := HS.out.cr_ _ HV.out.1 HV.out.2.1
 have f2 := (HS.out.fr s.f2.toNat).2.1
 go_upto_region 32 with ((with_reducible refine gate_store (t := 3) (p := 111) rfl ?_); refine store_event (t := 3) (p := 111) (v := ?vo) (w1 := W1.setCell ⟨gr, s.f2.toNat, none⟩ (.int .i64 s.f4)) ?hg ?ho ?hn ?hr ?_; (case ho => rfl); (case hg => rfl); (case hn => rfl); (case hr => first | (go_simp; done) | (go_simp; rfl)); intro W3 hw; have n0_ := am_ (HS.out.putR s.f2 s.f4); rw [← hw] at n0_; clear HS hw y2 f2; have HS := n0_; clear n0_)
 clear z2 z4
 have cz0 := HS.out.cg 0 (v := .int .i64 a) rfl
 have f0 := (HS.out.fr 0).1
 go_wp2
 go_ret2
 exact ⟨rfl, (HS.out.putA (wrap64 (a + 1))).m, (HS.out.putA (wrap64 (a + 1))).bl, (HS.out.putA (wrap64 (a + 1))).k⟩
set_option maxHeartbeats 8000000 in
set_option maxRecDepth 100000 in
theorem impl_run.step_k5a (w W0 : World) (g gr gc gs cr cc cs : Nat) (a : Int) (R C : List Int) (S : List Bool) (A0 : Option Addr) (c0 : Nat) (l0 : List S51) (A1 : Option Addr) (c1 : Nat) (l1 : List Int) (s : S51) (hm : impl_run.Mch w.heap.size g gr gc gs cr cc cs a R C S W0) (ha : impl_run.Ap g gr gc gs) (hge : w.heap.size ≤ g) (hB : Below w.heap.size w W0) (hr0 : Kd.C k51 w A0 l0.length l0) (hr1 : Kd.C (Kd.int .i64) w A1 l1.length l1) (h8 : l1.length = 8) (h0 : 0 ≤ a) (h1 : a < (l0.length : Int)) (hs : rd_T51 l0 a = s) (hv : impl_run.okS s) (hk : s.f0 = 5) (t : Int) (ht : (wrap64 (rd R s.f3 + s.f4)) = t) (h9 : 8 ≤ t) :
  Calls Try.prog 83 #[.pointer (some ⟨g, 0, none⟩), .slice A0 l0.length c0, .slice A1 l1.length c1] W0 fun e W => e = .returned (.tuple #[.int .i64 1, .bool false]) ∧ impl_run.Mch w.heap.size g gr gc gs cr cc cs a R C S W ∧ Below w.heap.size w W ∧ Kept W0 W (fun k => k = g ∨ k = gr ∨ k = gc ∨ k = gs) := by
 have hu51 := Try.underlying51
 obtain ⟨ad, e206, hx0, hx1, hx2, hx3, hx4, hx5⟩ := at_T51 (Kd.C_below hr0 hB) a h0 h1
 subst e206
 rw [hs] at hx0 hx1 hx2 hx3 hx4 hx5
 clear hs
 have p0 := eq_true h0
 have q0 := eq_true h1
 have cz0 := cq_ hm.1 0 (.int .i64 a)
 have cz1 := cq_ hm.1 1 (.slice (some ⟨gr, 0, none⟩) 6 cr)
 have HM := am_ hm
 have HB := am_ hB
 have HA1 := am_ hr1
 have HV := am_ hv
 clear hm hr0 h0 h1 hr1 hB hv
 replace hk := am_ hk
 replace h8 := am_ h8
 replace ht := am_ ht
 replace h9 := am_ h9
 go_enter Try.func83, Try.ntmps83
 go_upto_region 4 with (first | ((with_reducible refine gate_dst (N := 8) rfl ?_); refine boxq_ (N := 8) (cs := #[.int .i64 0, .int .i64 0, .int .i64 0, .int .i64 0, .int .i64 0, .int .i64 0]) (t := 51) ?_; intro g8 hg w6 hbox hb; have HS := am_ (impl_run.Stp.new HM.out ha hge HB.out hg hbox hb); clear HM HB hg hbox hb) | ((with_reducible refine gate_store (t := 51) (p := 8) rfl ?_); refine wpList_store_rowTo rfl 51 (.tmp 8) (.tmp 18) rfl rfl g8 #[.int .i64 s.f0, .int .i64 s.f1, .int .i64 s.f2, .int .i64 s.f3, .int .i64 s.f4, .int .i64 s.f5] rfl rfl 51 _ HS.out.st impl_run.sz51 rfl y19_ ?_; have n0_ := am_ (HS.out.row s); clear HS; generalize World.setRow _ _ _ = W1 at n0_ ⊢; have HS := n0_; clear n0_ cz0 cz1 hx0 hx1 hx2 hx3 hx4 hx5; have cz0 := HS.out.cg 0 (v := .int .i64 a) rfl; have cz1 := HS.out.cg 1 (v := .slice (some ⟨gr, 0, none⟩) 6 cr) rfl))
 clear p0 q0 cz0 cz1
 have k1 : (s.f0 == 1) = false := by rw [hk.out]; rfl
 have k2 : (s.f0 == 2) = false := by rw [hk.out]; rfl
 have k3 : (s.f0 == 3) = false := by rw [hk.out]; rfl
 have k4 : (s.f0 == 4) = false := by rw [hk.out]; rfl
 have k5 : (s.f0 == 5) = true := by rw [hk.out]; rfl
 have z0 := HS.out.c8 0 (v := .int .i64 s.f0) rfl
 go_upto_region 15 with (fail)
 clear z0
 have z3 := HS.out.c8 3 (v := .int .i64 s.f3) rfl
 have z4 := HS.out.c8 4 (v := .int .i64 s.f4) rfl
 have p3 := eq_true HV.out.2.2.1
 have q3 := eq_true HV.out.2.2.2.1
 have y3 := HS.out.cr_ _ HV.out.2.2.1 HV.out.2.2.2.1
 go_quiet (fail)
 simp only [ht.out]
 have c8 : decide (t ≥ 8) = true := decide_eq_true h9.out
 have c8' : decide (8 ≤ t) = true := decide_eq_true h9.out
 go_wp2
 go_ret2
 exact ⟨rfl, (HS.out.drewN _).m, (HS.out.drewN _).bl, (HS.out.drewN _).k⟩
set_option maxHeartbeats 8000000 in
set_option maxRecDepth 100000 in
theorem impl_run.step_k5b (w W0 : World) (g gr gc gs cr cc cs : Nat) (a : Int) (R C : List Int) (S : List Bool) (A0 : Option Addr) (c0 : Nat) (l0 : List S51) (A1 : Option Addr) (c1 : Nat) (l1 : List Int) (s : S51) (hm : impl_run.Mch w.heap.size g gr gc gs cr cc cs a R C S W0) (ha : impl_run.Ap g gr gc gs) (hge : w.heap.size ≤ g) (hB : Below w.heap.size w W0) (hr0 : Kd.C k51 w A0 l0.length l0) (hr1 : Kd.C (Kd.int .i64) w A1 l1.length l1) (h8 : l1.length = 8) (h0 : 0 ≤ a) (h1 : a < (l0.length : Int)) (hs : rd_T51 l0 a = s) (hv : impl_run.okS s) (hk : s.f0 = 5) (t : Int) (ht : (wrap64 (rd R s.f3 + s.f4)) = t) (h9 : ¬ 8 ≤ t) (h10 : 0 ≤ t) :
  Calls Try.prog 83 #[.pointer (some ⟨g, 0, none⟩), .slice A0 l0.length c0, .slice A1 l1.length c1] W0 fun e W => e = .returned (.tuple #[.int .i64 0, .bool false]) ∧ impl_run.Mch w.heap.size g gr gc gs cr cc cs (wrap64 (a + 1)) (R.set s.f2.toNat (rd l1 t)) C S W ∧ Below w.heap.size w W ∧ Kept W0 W (fun k => k = g ∨ k = gr ∨ k = gc ∨ k = gs) := by
 have hu51 := Try.underlying51
 obtain ⟨ad, e206, hx0, hx1, hx2, hx3, hx4, hx5⟩ := at_T51 (Kd.C_below hr0 hB) a h0 h1
 subst e206
 rw [hs] at hx0 hx1 hx2 hx3 hx4 hx5
 clear hs
 have p0 := eq_true h0
 have q0 := eq_true h1
 have cz0 := cq_ hm.1 0 (.int .i64 a)
 have cz1 := cq_ hm.1 1 (.slice (some ⟨gr, 0, none⟩) 6 cr)
 have HM := am_ hm
 have HB := am_ hB
 have HA1 := am_ hr1
 have HV := am_ hv
 clear hm hr0 h0 h1 hr1 hB hv
 replace hk := am_ hk
 replace h8 := am_ h8
 replace ht := am_ ht
 replace h9 := am_ h9
 replace h10 := am_ h10
 go_enter Try.func83, Try.ntmps83
 go_upto_region 4 with (first | ((with_reducible refine gate_dst (N := 8) rfl ?_); refine boxq_ (N := 8) (cs := #[.int .i64 0, .int .i64 0, .int .i64 0, .int .i64 0, .int .i64 0, .int .i64 0]) (t := 51) ?_; intro g8 hg w6 hbox hb; have HS := am_ (impl_run.Stp.new HM.out ha hge HB.out hg hbox hb); clear HM HB hg hbox hb) | ((with_reducible refine gate_store (t := 51) (p := 8) rfl ?_); refine wpList_store_rowTo rfl 51 (.tmp 8) (.tmp 18) rfl rfl g8 #[.int .i64 s.f0, .int .i64 s.f1, .int .i64 s.f2, .int .i64 s.f3, .int .i64 s.f4, .int .i64 s.f5] rfl rfl 51 _ HS.out.st impl_run.sz51 rfl y19_ ?_; have n0_ := am_ (HS.out.row s); clear HS; generalize World.setRow _ _ _ = W1 at n0_ ⊢; have HS := n0_; clear n0_ cz0 cz1 hx0 hx1 hx2 hx3 hx4 hx5; have cz0 := HS.out.cg 0 (v := .int .i64 a) rfl; have cz1 := HS.out.cg 1 (v := .slice (some ⟨gr, 0, none⟩) 6 cr) rfl))
 clear p0 q0 cz0 cz1
 have k1 : (s.f0 == 1) = false := by rw [hk.out]; rfl
 have k2 : (s.f0 == 2) = false := by rw [hk.out]; rfl
 have k3 : (s.f0 == 3) = false := by rw [hk.out]; rfl
 have k4 : (s.f0 == 4) = false := by rw [hk.out]; rfl
 have k5 : (s.f0 == 5) = true := by rw [hk.out]; rfl
 have z0 := HS.out.c8 0 (v := .int .i64 s.f0) rfl
 go_upto_region 15 with (fail)
 clear z0
 have z3 := HS.out.c8 3 (v := .int .i64 s.f3) rfl
 have z4 := HS.out.c8 4 (v := .int .i64 s.f4) rfl
 have p3 := eq_true HV.out.2.2.1
 have q3 := eq_true HV.out.2.2.2.1
 have y3 := HS.out.cr_ _ HV.out.2.2.1 HV.out.2.2.2.1
 go_quiet (fail)
 simp only [ht.out]
 have c8 : decide (t ≥ 8) = false := decide_eq_false h9.out
 have c8' : decide (8 ≤ t) = false := decide_eq_false h9.out
 go_upto_region 18 with (fail)
 clear z3 z4 y3 c8 c8'
 generalize hq_ : World.drewN _ _ = W2
 have n0_ := am_ (show impl_run.Stp w W0 g gr gc gs cr cc cs g8 s a R C S W2 from hq_ ▸ HS.out.drewN _)
 clear HS hq_
 have HS := n0_
 clear n0_
 have z2 := HS.out.c8 2 (v := .int .i64 s.f2) rfl
 have p2 := eq_true HV.out.1
 have q2 := eq_true HV.out.2.1
 have y2 := HS.out.cr_ _ HV.out.1 HV.out.2.1
 obtain ⟨ad1, e1, hx1⟩ := Kd.at_int (Kd.C_below HA1.out HS.out.bl) t h10.out (by have := h9.out; have := h8.out; omega)
 cases e1
 have p9 := eq_true h10.out
 have q9 := eq_true (show t < (l1.length : Int) from by have := h9.out; have := h8.out; omega)
 go_still_tail 8, (by kernel_rfl)
 change wpList _ _ _ _ _ W2.drew
 have n0_ := am_ HS.out.drew
 clear HS z2 y2 hx1
 have HS := n0_
 clear n0_
 generalize W2.drew = W3 at HS ⊢
 have y2 := HS.out.cr_ _ HV.out.1 HV.out.2.1
 have f2 := (HS.out.fr s.f2.toNat).2.1
 go_upto_region 32 with ((with_reducible refine gate_store (t := 3) (p := 131) rfl ?_); refine store_event (t := 3) (p := 131) (v := ?vo) (w1 := W3.setCell ⟨gr, s.f2.toNat, none⟩ (.int .i64 (rd l1 t))) ?hg ?ho ?hn ?hr ?_; (case ho => rfl); (case hg => rfl); (case hn => rfl); (case hr => first | (go_simp; done) | (go_simp; rfl)); intro W4 hw; have n0_ := am_ (HS.out.putR s.f2 (rd l1 t)); rw [← hw] at n0_; clear HS hw y2 f2; have HS := n0_; clear n0_)
 have cz0 := HS.out.cg 0 (v := .int .i64 a) rfl
 have f0 := (HS.out.fr 0).1
 go_wp2
 go_ret2
 exact ⟨rfl, (HS.out.putA (wrap64 (a + 1))).m, (HS.out.putA (wrap64 (a + 1))).bl, (HS.out.putA (wrap64 (a + 1))).k⟩
set_option maxHeartbeats 8000000 in
set_option maxRecDepth 100000 in
theorem impl_run.step_k7a (w W0 : World) (g gr gc gs cr cc cs : Nat) (a : Int) (R C : List Int) (S : List Bool) (A0 : Option Addr) (c0 : Nat) (l0 : List S51) (A1 : Option Addr) (c1 : Nat) (l1 : List Int) (s : S51) (hm : impl_run.Mch w.heap.size g gr gc gs cr cc cs a R C S W0) (ha : impl_run.Ap g gr gc gs) (hge : w.heap.size ≤ g) (hB : Below w.heap.size w W0) (hr0 : Kd.C k51 w A0 l0.length l0) (hr1 : Kd.C (Kd.int .i64) w A1 l1.length l1) (h8 : l1.length = 8) (h0 : 0 ≤ a) (h1 : a < (l0.length : Int)) (hs : rd_T51 l0 a = s) (hv : impl_run.okS s) (hk : s.f0 = 7) (h9 : 16 ≤ s.f4) :
  Calls Try.prog 83 #[.pointer (some ⟨g, 0, none⟩), .slice A0 l0.length c0, .slice A1 l1.length c1] W0 fun e W => e = .returned (.tuple #[.int .i64 2, .bool false]) ∧ impl_run.Mch w.heap.size g gr gc gs cr cc cs a R C S W ∧ Below w.heap.size w W ∧ Kept W0 W (fun k => k = g ∨ k = gr ∨ k = gc ∨ k = gs) := by
 have hu51 := Try.underlying51
 obtain ⟨ad, e206, hx0, hx1, hx2, hx3, hx4, hx5⟩ := at_T51 (Kd.C_below hr0 hB) a h0 h1
 subst e206
 rw [hs] at hx0 hx1 hx2 hx3 hx4 hx5
 clear hs
 have p0 := eq_true h0
 have q0 := eq_true h1
 have cz0 := cq_ hm.1 0 (.int .i64 a)
 have cz1 := cq_ hm.1 1 (.slice (some ⟨gr, 0, none⟩) 6 cr)
 have HM := am_ hm
 have HB := am_ hB
 have HA1 := am_ hr1
 have HV := am_ hv
 clear hm hr0 h0 h1 hr1 hB hv
 replace hk := am_ hk
 replace h8 := am_ h8
 replace h9 := am_ h9
 go_enter Try.func83, Try.ntmps83
 go_upto_region 4 with (first | ((with_reducible refine gate_dst (N := 8) rfl ?_); refine boxq_ (N := 8) (cs := #[.int .i64 0, .int .i64 0, .int .i64 0, .int .i64 0, .int .i64 0, .int .i64 0]) (t := 51) ?_; intro g8 hg w6 hbox hb; have HS := am_ (impl_run.Stp.new HM.out ha hge HB.out hg hbox hb); clear HM HB hg hbox hb) | ((with_reducible refine gate_store (t := 51) (p := 8) rfl ?_); refine wpList_store_rowTo rfl 51 (.tmp 8) (.tmp 18) rfl rfl g8 #[.int .i64 s.f0, .int .i64 s.f1, .int .i64 s.f2, .int .i64 s.f3, .int .i64 s.f4, .int .i64 s.f5] rfl rfl 51 _ HS.out.st impl_run.sz51 rfl y19_ ?_; have n0_ := am_ (HS.out.row s); clear HS; generalize World.setRow _ _ _ = W1 at n0_ ⊢; have HS := n0_; clear n0_ cz0 cz1 hx0 hx1 hx2 hx3 hx4 hx5; have cz0 := HS.out.cg 0 (v := .int .i64 a) rfl; have cz1 := HS.out.cg 1 (v := .slice (some ⟨gr, 0, none⟩) 6 cr) rfl))
 clear p0 q0 cz0 cz1
 have k1 : (s.f0 == 1) = false := by rw [hk.out]; rfl
 have k2 : (s.f0 == 2) = false := by rw [hk.out]; rfl
 have k3 : (s.f0 == 3) = false := by rw [hk.out]; rfl
 have k4 : (s.f0 == 4) = false := by rw [hk.out]; rfl
 have k5 : (s.f0 == 5) = false := by rw [hk.out]; rfl
 have k7 : (s.f0 == 7) = true := by rw [hk.out]; rfl
 have z0 := HS.out.c8 0 (v := .int .i64 s.f0) rfl
 have z4 := HS.out.c8 4 (v := .int .i64 s.f4) rfl
 have c8 : decide (s.f4 ≥ 16) = true := decide_eq_true h9.out
 have c8' : decide (16 ≤ s.f4) = true := decide_eq_true h9.out
 go_wp2
 go_ret2
 exact ⟨rfl, HS.out.m, HS.out.bl, HS.out.k⟩
set_option maxHeartbeats 8000000 in
set_option maxRecDepth 100000 in
theorem impl_run.step_k6a (w W0 : World) (g gr gc gs cr cc cs : Nat) (a : Int) (R C : List Int) (S : List Bool) (A0 : Option Addr) (c0 : Nat) (l0 : List S51) (A1 : Option Addr) (c1 : Nat) (l1 : List Int) (s : S51) (hm : impl_run.Mch w.heap.size g gr gc gs cr cc cs a R C S W0) (ha : impl_run.Ap g gr gc gs) (hge : w.heap.size ≤ g) (hB : Below w.heap.size w W0) (hr0 : Kd.C k51 w A0 l0.length l0) (hr1 : Kd.C (Kd.int .i64) w A1 l1.length l1) (h8 : l1.length = 8) (h0 : 0 ≤ a) (h1 : a < (l0.length : Int)) (hs : rd_T51 l0 a = s) (hv : impl_run.okS s) (hk : s.f0 = 6) (h9 : 16 ≤ s.f4) :
  Calls Try.prog 83 #[.pointer (some ⟨g, 0, none⟩), .slice A0 l0.length c0, .slice A1 l1.length c1] W0 fun e W => e = .returned (.tuple #[.int .i64 2, .bool false]) ∧ impl_run.Mch w.heap.size g gr gc gs cr cc cs a R C S W ∧ Below w.heap.size w W ∧ Kept W0 W (fun k => k = g ∨ k = gr ∨ k = gc ∨ k = gs) := by
 have hu51 := Try.underlying51
 obtain ⟨ad, e206, hx0, hx1, hx2, hx3, hx4, hx5⟩ := at_T51 (Kd.C_below hr0 hB) a h0 h1
 subst e206
 rw [hs] at hx0 hx1 hx2 hx3 hx4 hx5
 clear hs
 have p0 := eq_true h0
 have q0 := eq_true h1
 have cz0 := cq_ hm.1 0 (.int .i64 a)
 have cz1 := cq_ hm.1 1 (.slice (some ⟨gr, 0, none⟩) 6 cr)
 have HM := am_ hm
 have HB := am_ hB
 have HA1 := am_ hr1
 have HV := am_ hv
 clear hm hr0 h0 h1 hr1 hB hv
 replace hk := am_ hk
 replace h8 := am_ h8
 replace h9 := am_ h9
 go_enter Try.func83, Try.ntmps83
 go_upto_region 4 with (first | ((with_reducible refine gate_dst (N := 8) rfl ?_); refine boxq_ (N := 8) (cs := #[.int .i64 0, .int .i64 0, .int .i64 0, .int .i64 0, .int .i64 0, .int .i64 0]) (t := 51) ?_; intro g8 hg w6 hbox hb; have HS := am_ (impl_run.Stp.new HM.out ha hge HB.out hg hbox hb); clear HM HB hg hbox hb) | ((with_reducible refine gate_store (t := 51) (p := 8) rfl ?_); refine wpList_store_rowTo rfl 51 (.tmp 8) (.tmp 18) rfl rfl g8 #[.int .i64 s.f0, .int .i64 s.f1, .int .i64 s.f2, .int .i64 s.f3, .int .i64 s.f4, .int .i64 s.f5] rfl rfl 51 _ HS.out.st impl_run.sz51 rfl y19_ ?_; have n0_ := am_ (HS.out.row s); clear HS; generalize World.setRow _ _ _ = W1 at n0_ ⊢; have HS := n0_; clear n0_ cz0 cz1 hx0 hx1 hx2 hx3 hx4 hx5; have cz0 := HS.out.cg 0 (v := .int .i64 a) rfl; have cz1 := HS.out.cg 1 (v := .slice (some ⟨gr, 0, none⟩) 6 cr) rfl))
 clear p0 q0 cz0 cz1
 have k1 : (s.f0 == 1) = false := by rw [hk.out]; rfl
 have k2 : (s.f0 == 2) = false := by rw [hk.out]; rfl
 have k3 : (s.f0 == 3) = false := by rw [hk.out]; rfl
 have k4 : (s.f0 == 4) = false := by rw [hk.out]; rfl
 have k5 : (s.f0 == 5) = false := by rw [hk.out]; rfl
 have k7 : (s.f0 == 7) = false := by rw [hk.out]; rfl
 have k6 : (s.f0 == 6) = true := by rw [hk.out]; rfl
 have z0 := HS.out.c8 0 (v := .int .i64 s.f0) rfl
 have z4 := HS.out.c8 4 (v := .int .i64 s.f4) rfl
 have c8 : decide (s.f4 ≥ 16) = true := decide_eq_true h9.out
 have c8' : decide (16 ≤ s.f4) = true := decide_eq_true h9.out
 go_wp2
 go_ret2
 exact ⟨rfl, HS.out.m, HS.out.bl, HS.out.k⟩
set_option maxHeartbeats 8000000 in
set_option maxRecDepth 100000 in
theorem impl_run.step_k7b (w W0 : World) (g gr gc gs cr cc cs : Nat) (a : Int) (R C : List Int) (S : List Bool) (A0 : Option Addr) (c0 : Nat) (l0 : List S51) (A1 : Option Addr) (c1 : Nat) (l1 : List Int) (s : S51) (hm : impl_run.Mch w.heap.size g gr gc gs cr cc cs a R C S W0) (ha : impl_run.Ap g gr gc gs) (hge : w.heap.size ≤ g) (hB : Below w.heap.size w W0) (hr0 : Kd.C k51 w A0 l0.length l0) (hr1 : Kd.C (Kd.int .i64) w A1 l1.length l1) (h8 : l1.length = 8) (h0 : 0 ≤ a) (h1 : a < (l0.length : Int)) (hs : rd_T51 l0 a = s) (hv : impl_run.okS s) (hk : s.f0 = 7) (hlt : s.f4 < 16) :
  Calls Try.prog 83 #[.pointer (some ⟨g, 0, none⟩), .slice A0 l0.length c0, .slice A1 l1.length c1] W0 fun e W => e = .returned (.tuple #[.int .i64 0, .bool false]) ∧ impl_run.Mch w.heap.size g gr gc gs cr cc cs (wrap64 (a + 1)) R (C.set s.f4.toNat (rd R s.f2)) (S.set s.f4.toNat true) W ∧ Below w.heap.size w W ∧ Kept W0 W (fun k => k = g ∨ k = gr ∨ k = gc ∨ k = gs) := by
 have hu51 := Try.underlying51
 obtain ⟨ad, e206, hx0, hx1, hx2, hx3, hx4, hx5⟩ := at_T51 (Kd.C_below hr0 hB) a h0 h1
 subst e206
 rw [hs] at hx0 hx1 hx2 hx3 hx4 hx5
 clear hs
 have p0 := eq_true h0
 have q0 := eq_true h1
 have cz0 := cq_ hm.1 0 (.int .i64 a)
 have cz1 := cq_ hm.1 1 (.slice (some ⟨gr, 0, none⟩) 6 cr)
 have HM := am_ hm
 have HB := am_ hB
 have HA1 := am_ hr1
 have HV := am_ hv
 clear hm hr0 h0 h1 hr1 hB hv
 replace hk := am_ hk
 replace h8 := am_ h8
 replace hlt := am_ hlt
 go_enter Try.func83, Try.ntmps83
 go_upto_region 4 with (first | ((with_reducible refine gate_dst (N := 8) rfl ?_); refine boxq_ (N := 8) (cs := #[.int .i64 0, .int .i64 0, .int .i64 0, .int .i64 0, .int .i64 0, .int .i64 0]) (t := 51) ?_; intro g8 hg w6 hbox hb; have HS := am_ (impl_run.Stp.new HM.out ha hge HB.out hg hbox hb); clear HM HB hg hbox hb) | ((with_reducible refine gate_store (t := 51) (p := 8) rfl ?_); refine wpList_store_rowTo rfl 51 (.tmp 8) (.tmp 18) rfl rfl g8 #[.int .i64 s.f0, .int .i64 s.f1, .int .i64 s.f2, .int .i64 s.f3, .int .i64 s.f4, .int .i64 s.f5] rfl rfl 51 _ HS.out.st impl_run.sz51 rfl y19_ ?_; have n0_ := am_ (HS.out.row s); clear HS; generalize World.setRow _ _ _ = W1 at n0_ ⊢; have HS := n0_; clear n0_ cz0 cz1 hx0 hx1 hx2 hx3 hx4 hx5; have cz0 := HS.out.cg 0 (v := .int .i64 a) rfl; have cz1 := HS.out.cg 1 (v := .slice (some ⟨gr, 0, none⟩) 6 cr) rfl))
 clear p0 q0 cz0 cz1
 have k1 : (s.f0 == 1) = false := by rw [hk.out]; rfl
 have k2 : (s.f0 == 2) = false := by rw [hk.out]; rfl
 have k3 : (s.f0 == 3) = false := by rw [hk.out]; rfl
 have k4 : (s.f0 == 4) = false := by rw [hk.out]; rfl
 have k5 : (s.f0 == 5) = false := by rw [hk.out]; rfl
 have k7 : (s.f0 == 7) = true := by rw [hk.out]; rfl
 have z0 := HS.out.c8 0 (v := .int .i64 s.f0) rfl
 have z4 := HS.out.c8 4 (v := .int .i64 s.f4) rfl
 have c8 : decide (s.f4 ≥ 16) = false := decide_eq_false y18_
 have c8' : decide (16 ≤ s.f4) = false := decide_eq_false y18_
 go_upto_region 24 with (fail)
 clear c8 c8' z0
 have z2 := HS.out.c8 2 (v := .int .i64 s.f2) rfl
 have p2 := eq_true HV.out.1
 have q2 := eq_true HV.out.2.1
 have y2 := HS.out.cr_ _ HV.out.1 HV.out.2.1
 have p4 := eq_true HV.out.2.2.2.2
 have q4 := eq_true hlt.out
 have cz2 := HS.out.cg 2 (v := .slice (some ⟨gc, 0, none⟩) 16 cc) rfl
 have cz3 := HS.out.cg 3 (v := .slice (some ⟨gs, 0, none⟩) 16 cs) rfl
 have y4 := HS.out.cc_ _ HV.out.2.2.2.2 hlt.out
 have y5 := HS.out.cs_ _ HV.out.2.2.2.2 hlt.out
 have f4 := (HS.out.fr s.f4.toNat).2.2.1
 have f5 := (HS.out.fr s.f4.toNat).2.2.2
 have a1 := HS.out.ap.f
 have a2 := HS.out.ap.f.symm
 have HC := HS.out.putC s.f4 (rd R s.f2)
 have z4' := HC.c8 4 (v := .int .i64 s.f4) rfl
 have z2' := HC.c8 2 (v := .int .i64 s.f2) rfl
 have cz2' := HC.cg 2 (v := .slice (some ⟨gc, 0, none⟩) 16 cc) rfl
 have cz3' := HC.cg 3 (v := .slice (some ⟨gs, 0, none⟩) 16 cs) rfl
 have y2' := HC.cr_ _ HV.out.1 HV.out.2.1
 have y5' := HC.cs_ _ HV.out.2.2.2.2 hlt.out
 have f5' := (HC.fr s.f4.toNat).2.2.2
 have HD := HS.out.putS s.f4 true
 have z4'' := HD.c8 4 (v := .int .i64 s.f4) rfl
 have z2'' := HD.c8 2 (v := .int .i64 s.f2) rfl
 have cz2'' := HD.cg 2 (v := .slice (some ⟨gc, 0, none⟩) 16 cc) rfl
 have cz3'' := HD.cg 3 (v := .slice (some ⟨gs, 0, none⟩) 16 cs) rfl
 have y2'' := HD.cr_ _ HV.out.1 HV.out.2.1
 have y4'' := HD.cc_ _ HV.out.2.2.2.2 hlt.out
 have f4'' := (HD.fr s.f4.toNat).2.2.1
 clear HC HD
 go_region
 clear z4 z2 cz2 cz3 y2 y4 y5 f4 f5 a1 a2 z4' z2' cz2' cz3' y2' y5' f5' z4'' z2'' cz2'' cz3'' y2'' y4'' f4''
 have n0_ := am_ ((HS.out.putC s.f4 (rd R s.f2)).putS s.f4 true).drew
 clear HS
 generalize World.drew _ = W2 at n0_ ⊢
 have HS := n0_
 clear n0_
 go_upto_region 32 with (fail)
 have cz0 := HS.out.cg 0 (v := .int .i64 a) rfl
 have f0 := (HS.out.fr 0).1
 go_wp2
 go_ret2
 exact ⟨rfl, (HS.out.putA (wrap64 (a + 1))).m, (HS.out.putA (wrap64 (a + 1))).bl, (HS.out.putA (wrap64 (a + 1))).k⟩
set_option maxHeartbeats 8000000 in
set_option maxRecDepth 100000 in
theorem impl_run.step_k6b (w W0 : World) (g gr gc gs cr cc cs : Nat) (a : Int) (R C : List Int) (S : List Bool) (A0 : Option Addr) (c0 : Nat) (l0 : List S51) (A1 : Option Addr) (c1 : Nat) (l1 : List Int) (s : S51) (hm : impl_run.Mch w.heap.size g gr gc gs cr cc cs a R C S W0) (ha : impl_run.Ap g gr gc gs) (hge : w.heap.size ≤ g) (hB : Below w.heap.size w W0) (hr0 : Kd.C k51 w A0 l0.length l0) (hr1 : Kd.C (Kd.int .i64) w A1 l1.length l1) (h8 : l1.length = 8) (h0 : 0 ≤ a) (h1 : a < (l0.length : Int)) (hs : rd_T51 l0 a = s) (hv : impl_run.okS s) (hk : s.f0 = 6) (hlt : s.f4 < 16) (hb : rdOf false S s.f4 = false) :
  Calls Try.prog 83 #[.pointer (some ⟨g, 0, none⟩), .slice A0 l0.length c0, .slice A1 l1.length c1] W0 fun e W => e = .returned (.tuple #[.int .i64 3, .bool false]) ∧ impl_run.Mch w.heap.size g gr gc gs cr cc cs a R C S W ∧ Below w.heap.size w W ∧ Kept W0 W (fun k => k = g ∨ k = gr ∨ k = gc ∨ k = gs) := by
 have hu51 := Try.underlying51
 obtain ⟨ad, e206, hx0, hx1, hx2, hx3, hx4, hx5⟩ := at_T51 (Kd.C_below hr0 hB) a h0 h1
 subst e206
 rw [hs] at hx0 hx1 hx2 hx3 hx4 hx5
 clear hs
 have p0 := eq_true h0
 have q0 := eq_true h1
 have cz0 := cq_ hm.1 0 (.int .i64 a)
 have cz1 := cq_ hm.1 1 (.slice (some ⟨gr, 0, none⟩) 6 cr)
 have HM := am_ hm
 have HB := am_ hB
 have HA1 := am_ hr1
 have HV := am_ hv
 clear hm hr0 h0 h1 hr1 hB hv
 replace hk := am_ hk
 replace h8 := am_ h8
 replace hlt := am_ hlt
 replace hb := am_ hb
 go_enter Try.func83, Try.ntmps83
 go_upto_region 4 with (first | ((with_reducible refine gate_dst (N := 8) rfl ?_); refine boxq_ (N := 8) (cs := #[.int .i64 0, .int .i64 0, .int .i64 0, .int .i64 0, .int .i64 0, .int .i64 0]) (t := 51) ?_; intro g8 hg w6 hbox hb; have HS := am_ (impl_run.Stp.new HM.out ha hge HB.out hg hbox hb); clear HM HB hg hbox hb) | ((with_reducible refine gate_store (t := 51) (p := 8) rfl ?_); refine wpList_store_rowTo rfl 51 (.tmp 8) (.tmp 18) rfl rfl g8 #[.int .i64 s.f0, .int .i64 s.f1, .int .i64 s.f2, .int .i64 s.f3, .int .i64 s.f4, .int .i64 s.f5] rfl rfl 51 _ HS.out.st impl_run.sz51 rfl y19_ ?_; have n0_ := am_ (HS.out.row s); clear HS; generalize World.setRow _ _ _ = W1 at n0_ ⊢; have HS := n0_; clear n0_ cz0 cz1 hx0 hx1 hx2 hx3 hx4 hx5; have cz0 := HS.out.cg 0 (v := .int .i64 a) rfl; have cz1 := HS.out.cg 1 (v := .slice (some ⟨gr, 0, none⟩) 6 cr) rfl))
 clear p0 q0 cz0 cz1
 have k1 : (s.f0 == 1) = false := by rw [hk.out]; rfl
 have k2 : (s.f0 == 2) = false := by rw [hk.out]; rfl
 have k3 : (s.f0 == 3) = false := by rw [hk.out]; rfl
 have k4 : (s.f0 == 4) = false := by rw [hk.out]; rfl
 have k5 : (s.f0 == 5) = false := by rw [hk.out]; rfl
 have k7 : (s.f0 == 7) = false := by rw [hk.out]; rfl
 have k6 : (s.f0 == 6) = true := by rw [hk.out]; rfl
 have z0 := HS.out.c8 0 (v := .int .i64 s.f0) rfl
 have z4 := HS.out.c8 4 (v := .int .i64 s.f4) rfl
 have c8 : decide (s.f4 ≥ 16) = false := decide_eq_false y18_
 have c8' : decide (16 ≤ s.f4) = false := decide_eq_false y18_
 go_upto_region 25 with (fail)
 clear z0
 have p4 := eq_true HV.out.2.2.2.2
 have q4 := eq_true hlt.out
 have cz3 := HS.out.cg 3 (v := .slice (some ⟨gs, 0, none⟩) 16 cs) rfl
 have y5 := HS.out.cs_ _ HV.out.2.2.2.2 hlt.out
 rw [hb.out] at y5
 go_quiet (fail)
 go_wp2
 go_ret2
 exact ⟨rfl, (HS.out.drewN _).m, (HS.out.drewN _).bl, (HS.out.drewN _).k⟩
set_option maxHeartbeats 8000000 in
set_option maxRecDepth 100000 in
theorem impl_run.step_k6c (w W0 : World) (g gr gc gs cr cc cs : Nat) (a : Int) (R C : List Int) (S : List Bool) (A0 : Option Addr) (c0 : Nat) (l0 : List S51) (A1 : Option Addr) (c1 : Nat) (l1 : List Int) (s : S51) (hm : impl_run.Mch w.heap.size g gr gc gs cr cc cs a R C S W0) (ha : impl_run.Ap g gr gc gs) (hge : w.heap.size ≤ g) (hB : Below w.heap.size w W0) (hr0 : Kd.C k51 w A0 l0.length l0) (hr1 : Kd.C (Kd.int .i64) w A1 l1.length l1) (h8 : l1.length = 8) (h0 : 0 ≤ a) (h1 : a < (l0.length : Int)) (hs : rd_T51 l0 a = s) (hv : impl_run.okS s) (hk : s.f0 = 6) (hlt : s.f4 < 16) (hb : rdOf false S s.f4 = true) :
  Calls Try.prog 83 #[.pointer (some ⟨g, 0, none⟩), .slice A0 l0.length c0, .slice A1 l1.length c1] W0 fun e W => e = .returned (.tuple #[.int .i64 0, .bool false]) ∧ impl_run.Mch w.heap.size g gr gc gs cr cc cs (wrap64 (a + 1)) (R.set s.f2.toNat (rd C s.f4)) C S W ∧ Below w.heap.size w W ∧ Kept W0 W (fun k => k = g ∨ k = gr ∨ k = gc ∨ k = gs) := by
 have hu51 := Try.underlying51
 obtain ⟨ad, e206, hx0, hx1, hx2, hx3, hx4, hx5⟩ := at_T51 (Kd.C_below hr0 hB) a h0 h1
 subst e206
 rw [hs] at hx0 hx1 hx2 hx3 hx4 hx5
 clear hs
 have p0 := eq_true h0
 have q0 := eq_true h1
 have cz0 := cq_ hm.1 0 (.int .i64 a)
 have cz1 := cq_ hm.1 1 (.slice (some ⟨gr, 0, none⟩) 6 cr)
 have HM := am_ hm
 have HB := am_ hB
 have HA1 := am_ hr1
 have HV := am_ hv
 clear hm hr0 h0 h1 hr1 hB hv
 replace hk := am_ hk
 replace h8 := am_ h8
 replace hlt := am_ hlt
 replace hb := am_ hb
 go_enter Try.func83, Try.ntmps83
 go_upto_region 4 with (first | ((with_reducible refine gate_dst (N := 8) rfl ?_); refine boxq_ (N := 8) (cs := #[.int .i64 0, .int .i64 0, .int .i64 0, .int .i64 0, .int .i64 0, .int .i64 0]) (t := 51) ?_; intro g8 hg w6 hbox hb; have HS := am_ (impl_run.Stp.new HM.out ha hge HB.out hg hbox hb); clear HM HB hg hbox hb) | ((with_reducible refine gate_store (t := 51) (p := 8) rfl ?_); refine wpList_store_rowTo rfl 51 (.tmp 8) (.tmp 18) rfl rfl g8 #[.int .i64 s.f0, .int .i64 s.f1, .int .i64 s.f2, .int .i64 s.f3, .int .i64 s.f4, .int .i64 s.f5] rfl rfl 51 _ HS.out.st impl_run.sz51 rfl y19_ ?_; have n0_ := am_ (HS.out.row s); clear HS; generalize World.setRow _ _ _ = W1 at n0_ ⊢; have HS := n0_; clear n0_ cz0 cz1 hx0 hx1 hx2 hx3 hx4 hx5; have cz0 := HS.out.cg 0 (v := .int .i64 a) rfl; have cz1 := HS.out.cg 1 (v := .slice (some ⟨gr, 0, none⟩) 6 cr) rfl))
 clear p0 q0 cz0 cz1
 have k1 : (s.f0 == 1) = false := by rw [hk.out]; rfl
 have k2 : (s.f0 == 2) = false := by rw [hk.out]; rfl
 have k3 : (s.f0 == 3) = false := by rw [hk.out]; rfl
 have k4 : (s.f0 == 4) = false := by rw [hk.out]; rfl
 have k5 : (s.f0 == 5) = false := by rw [hk.out]; rfl
 have k7 : (s.f0 == 7) = false := by rw [hk.out]; rfl
 have k6 : (s.f0 == 6) = true := by rw [hk.out]; rfl
 have z0 := HS.out.c8 0 (v := .int .i64 s.f0) rfl
 have z4 := HS.out.c8 4 (v := .int .i64 s.f4) rfl
 have c8 : decide (s.f4 ≥ 16) = false := decide_eq_false y18_
 have c8' : decide (16 ≤ s.f4) = false := decide_eq_false y18_
 go_upto_region 25 with (fail)
 clear z0
 have p4 := eq_true HV.out.2.2.2.2
 have q4 := eq_true hlt.out
 have cz3 := HS.out.cg 3 (v := .slice (some ⟨gs, 0, none⟩) 16 cs) rfl
 have y5 := HS.out.cs_ _ HV.out.2.2.2.2 hlt.out
 rw [hb.out] at y5
 go_quiet (fail)
 go_upto_region 27 with (fail)
 clear z4 cz3 y5 c8 c8'
 generalize hq_ : World.drewN _ _ = W2
 have n0_ := am_ (show impl_run.Stp w W0 g gr gc gs cr cc cs g8 s a R C S W2 from hq_ ▸ HS.out.drewN _)
 clear HS hq_
 have HS := n0_
 clear n0_
 have z2 := HS.out.c8 2 (v := .int .i64 s.f2) rfl
 have z4 := HS.out.c8 4 (v := .int .i64 s.f4) rfl
 have p2 := eq_true HV.out.1
 have q2 := eq_true HV.out.2.1
 have y2 := HS.out.cr_ _ HV.out.1 HV.out.2.1
 have cz2 := HS.out.cg 2 (v := .slice (some ⟨gc, 0, none⟩) 16 cc) rfl
 have y4 := HS.out.cc_ _ HV.out.2.2.2.2 hlt.out
 go_still_tail 12, (by kernel_rfl)
 change wpList _ _ _ _ _ W2.drew
 have n0_ := am_ HS.out.drew
 clear HS z2 z4 y2 cz2 y4
 have HS := n0_
 clear n0_
 generalize W2.drew = W3 at HS ⊢
 have y2 := HS.out.cr_ _ HV.out.1 HV.out.2.1
 have f2 := (HS.out.fr s.f2.toNat).2.1
 go_upto_region 32 with ((with_reducible refine gate_store (t := 3) (p := 180) rfl ?_); refine store_event (t := 3) (p := 180) (v := ?vo) (w1 := W3.setCell ⟨gr, s.f2.toNat, none⟩ (.int .i64 (rd C s.f4))) ?hg ?ho ?hn ?hr ?_; (case ho => rfl); (case hg => rfl); (case hn => rfl); (case hr => first | (go_simp; done) | (go_simp; rfl)); intro W4 hw; have n0_ := am_ (HS.out.putR s.f2 (rd C s.f4)); rw [← hw] at n0_; clear HS hw y2 f2; have HS := n0_; clear n0_)
 have cz0 := HS.out.cg 0 (v := .int .i64 a) rfl
 have f0 := (HS.out.fr 0).1
 go_wp2
 go_ret2
 exact ⟨rfl, (HS.out.putA (wrap64 (a + 1))).m, (HS.out.putA (wrap64 (a + 1))).bl, (HS.out.putA (wrap64 (a + 1))).k⟩
set_option maxHeartbeats 8000000 in
set_option maxRecDepth 100000 in
theorem impl_run.step_k11 (w W0 : World) (g gr gc gs cr cc cs : Nat) (a : Int) (R C : List Int) (S : List Bool) (A0 : Option Addr) (c0 : Nat) (l0 : List S51) (A1 : Option Addr) (c1 : Nat) (l1 : List Int) (s : S51) (hm : impl_run.Mch w.heap.size g gr gc gs cr cc cs a R C S W0) (ha : impl_run.Ap g gr gc gs) (hge : w.heap.size ≤ g) (hB : Below w.heap.size w W0) (hr0 : Kd.C k51 w A0 l0.length l0) (hr1 : Kd.C (Kd.int .i64) w A1 l1.length l1) (h8 : l1.length = 8) (h0 : 0 ≤ a) (h1 : a < (l0.length : Int)) (hs : rd_T51 l0 a = s) (hv : impl_run.okS s) (hk : s.f0 = 11) :
  Calls Try.prog 83 #[.pointer (some ⟨g, 0, none⟩), .slice A0 l0.length c0, .slice A1 l1.length c1] W0 fun e W => e = .returned (.tuple #[.int .i64 0, .bool true]) ∧ impl_run.Mch w.heap.size g gr gc gs cr cc cs a R C S W ∧ Below w.heap.size w W ∧ Kept W0 W (fun k => k = g ∨ k = gr ∨ k = gc ∨ k = gs) := by
 have hu51 := Try.underlying51
 obtain ⟨ad, e206, hx0, hx1, hx2, hx3, hx4, hx5⟩ := at_T51 (Kd.C_below hr0 hB) a h0 h1
 subst e206
 rw [hs] at hx0 hx1 hx2 hx3 hx4 hx5
 clear hs
 have p0 := eq_true h0
 have q0 := eq_true h1
 have cz0 := cq_ hm.1 0 (.int .i64 a)
 have cz1 := cq_ hm.1 1 (.slice (some ⟨gr, 0, none⟩) 6 cr)
 have HM := am_ hm
 have HB := am_ hB
 have HA1 := am_ hr1
 have HV := am_ hv
 clear hm hr0 h0 h1 hr1 hB hv
 replace hk := am_ hk
 replace h8 := am_ h8
 go_enter Try.func83, Try.ntmps83
 go_upto_region 4 with (first | ((with_reducible refine gate_dst (N := 8) rfl ?_); refine boxq_ (N := 8) (cs := #[.int .i64 0, .int .i64 0, .int .i64 0, .int .i64 0, .int .i64 0, .int .i64 0]) (t := 51) ?_; intro g8 hg w6 hbox hb; have HS := am_ (impl_run.Stp.new HM.out ha hge HB.out hg hbox hb); clear HM HB hg hbox hb) | ((with_reducible refine gate_store (t := 51) (p := 8) rfl ?_); refine wpList_store_rowTo rfl 51 (.tmp 8) (.tmp 18) rfl rfl g8 #[.int .i64 s.f0, .int .i64 s.f1, .int .i64 s.f2, .int .i64 s.f3, .int .i64 s.f4, .int .i64 s.f5] rfl rfl 51 _ HS.out.st impl_run.sz51 rfl y19_ ?_; have n0_ := am_ (HS.out.row s); clear HS; generalize World.setRow _ _ _ = W1 at n0_ ⊢; have HS := n0_; clear n0_ cz0 cz1 hx0 hx1 hx2 hx3 hx4 hx5; have cz0 := HS.out.cg 0 (v := .int .i64 a) rfl; have cz1 := HS.out.cg 1 (v := .slice (some ⟨gr, 0, none⟩) 6 cr) rfl))
 clear p0 q0 cz0 cz1
 have k1 : (s.f0 == 1) = false := by rw [hk.out]; rfl
 have k2 : (s.f0 == 2) = false := by rw [hk.out]; rfl
 have k3 : (s.f0 == 3) = false := by rw [hk.out]; rfl
 have k4 : (s.f0 == 4) = false := by rw [hk.out]; rfl
 have k5 : (s.f0 == 5) = false := by rw [hk.out]; rfl
 have k7 : (s.f0 == 7) = false := by rw [hk.out]; rfl
 have k6 : (s.f0 == 6) = false := by rw [hk.out]; rfl
 have k11 : (s.f0 == 11) = true := by rw [hk.out]; rfl
 have z0 := HS.out.c8 0 (v := .int .i64 s.f0) rfl
 go_wp2
 go_ret2
 exact ⟨rfl, HS.out.m, HS.out.bl, HS.out.k⟩
set_option maxHeartbeats 8000000 in
set_option maxRecDepth 100000 in
theorem impl_run.step_k8 (w W0 : World) (g gr gc gs cr cc cs : Nat) (a : Int) (R C : List Int) (S : List Bool) (A0 : Option Addr) (c0 : Nat) (l0 : List S51) (A1 : Option Addr) (c1 : Nat) (l1 : List Int) (s : S51) (hm : impl_run.Mch w.heap.size g gr gc gs cr cc cs a R C S W0) (ha : impl_run.Ap g gr gc gs) (hge : w.heap.size ≤ g) (hB : Below w.heap.size w W0) (hr0 : Kd.C k51 w A0 l0.length l0) (hr1 : Kd.C (Kd.int .i64) w A1 l1.length l1) (h8 : l1.length = 8) (h0 : 0 ≤ a) (h1 : a < (l0.length : Int)) (hs : rd_T51 l0 a = s) (hv : impl_run.okS s) (hk : s.f0 = 8) :
  Calls Try.prog 83 #[.pointer (some ⟨g, 0, none⟩), .slice A0 l0.length c0, .slice A1 l1.length c1] W0 fun e W => e = .returned (.tuple #[.int .i64 0, .bool false]) ∧ impl_run.Mch w.heap.size g gr gc gs cr cc cs (wrap64 (wrap64 (a + 1) + s.f5)) R C S W ∧ Below w.heap.size w W ∧ Kept W0 W (fun k => k = g ∨ k = gr ∨ k = gc ∨ k = gs) := by
 have hu51 := Try.underlying51
 obtain ⟨ad, e206, hx0, hx1, hx2, hx3, hx4, hx5⟩ := at_T51 (Kd.C_below hr0 hB) a h0 h1
 subst e206
 rw [hs] at hx0 hx1 hx2 hx3 hx4 hx5
 clear hs
 have p0 := eq_true h0
 have q0 := eq_true h1
 have cz0 := cq_ hm.1 0 (.int .i64 a)
 have cz1 := cq_ hm.1 1 (.slice (some ⟨gr, 0, none⟩) 6 cr)
 have HM := am_ hm
 have HB := am_ hB
 have HA1 := am_ hr1
 have HV := am_ hv
 clear hm hr0 h0 h1 hr1 hB hv
 replace hk := am_ hk
 replace h8 := am_ h8
 go_enter Try.func83, Try.ntmps83
 go_upto_region 4 with (first | ((with_reducible refine gate_dst (N := 8) rfl ?_); refine boxq_ (N := 8) (cs := #[.int .i64 0, .int .i64 0, .int .i64 0, .int .i64 0, .int .i64 0, .int .i64 0]) (t := 51) ?_; intro g8 hg w6 hbox hb; have HS := am_ (impl_run.Stp.new HM.out ha hge HB.out hg hbox hb); clear HM HB hg hbox hb) | ((with_reducible refine gate_store (t := 51) (p := 8) rfl ?_); refine wpList_store_rowTo rfl 51 (.tmp 8) (.tmp 18) rfl rfl g8 #[.int .i64 s.f0, .int .i64 s.f1, .int .i64 s.f2, .int .i64 s.f3, .int .i64 s.f4, .int .i64 s.f5] rfl rfl 51 _ HS.out.st impl_run.sz51 rfl y19_ ?_; have n0_ := am_ (HS.out.row s); clear HS; generalize World.setRow _ _ _ = W1 at n0_ ⊢; have HS := n0_; clear n0_ cz0 cz1 hx0 hx1 hx2 hx3 hx4 hx5; have cz0 := HS.out.cg 0 (v := .int .i64 a) rfl; have cz1 := HS.out.cg 1 (v := .slice (some ⟨gr, 0, none⟩) 6 cr) rfl))
 clear p0 q0 cz0 cz1
 have k1 : (s.f0 == 1) = false := by rw [hk.out]; rfl
 have k2 : (s.f0 == 2) = false := by rw [hk.out]; rfl
 have k3 : (s.f0 == 3) = false := by rw [hk.out]; rfl
 have k4 : (s.f0 == 4) = false := by rw [hk.out]; rfl
 have k5 : (s.f0 == 5) = false := by rw [hk.out]; rfl
 have k7 : (s.f0 == 7) = false := by rw [hk.out]; rfl
 have k6 : (s.f0 == 6) = false := by rw [hk.out]; rfl
 have k11 : (s.f0 == 11) = false := by rw [hk.out]; rfl
 have k8 : (s.f0 == 8) = true := by rw [hk.out]; rfl
 have z0 := HS.out.c8 0 (v := .int .i64 s.f0) rfl
 have z5 := HS.out.c8 5 (v := .int .i64 s.f5) rfl
 go_upto_region 32 with (fail)
 clear z0 z5
 have cz0 := HS.out.cg 0 (v := .int .i64 a) rfl
 have f0 := (HS.out.fr 0).1
 go_wp2
 go_ret2
 exact ⟨rfl, (HS.out.putA (wrap64 (wrap64 (a + 1) + s.f5))).m, (HS.out.putA (wrap64 (wrap64 (a + 1) + s.f5))).bl, (HS.out.putA (wrap64 (wrap64 (a + 1) + s.f5))).k⟩
set_option maxHeartbeats 8000000 in
set_option maxRecDepth 100000 in
theorem impl_run.step_k9a (w W0 : World) (g gr gc gs cr cc cs : Nat) (a : Int) (R C : List Int) (S : List Bool) (A0 : Option Addr) (c0 : Nat) (l0 : List S51) (A1 : Option Addr) (c1 : Nat) (l1 : List Int) (s : S51) (hm : impl_run.Mch w.heap.size g gr gc gs cr cc cs a R C S W0) (ha : impl_run.Ap g gr gc gs) (hge : w.heap.size ≤ g) (hB : Below w.heap.size w W0) (hr0 : Kd.C k51 w A0 l0.length l0) (hr1 : Kd.C (Kd.int .i64) w A1 l1.length l1) (h8 : l1.length = 8) (h0 : 0 ≤ a) (h1 : a < (l0.length : Int)) (hs : rd_T51 l0 a = s) (hv : impl_run.okS s) (hk : s.f0 = 9) (h9 : (rd R s.f2 = rd R s.f3)) :
  Calls Try.prog 83 #[.pointer (some ⟨g, 0, none⟩), .slice A0 l0.length c0, .slice A1 l1.length c1] W0 fun e W => e = .returned (.tuple #[.int .i64 0, .bool false]) ∧ impl_run.Mch w.heap.size g gr gc gs cr cc cs (wrap64 (wrap64 (a + 1) + s.f5)) R C S W ∧ Below w.heap.size w W ∧ Kept W0 W (fun k => k = g ∨ k = gr ∨ k = gc ∨ k = gs) := by
 have hu51 := Try.underlying51
 obtain ⟨ad, e206, hx0, hx1, hx2, hx3, hx4, hx5⟩ := at_T51 (Kd.C_below hr0 hB) a h0 h1
 subst e206
 rw [hs] at hx0 hx1 hx2 hx3 hx4 hx5
 clear hs
 have p0 := eq_true h0
 have q0 := eq_true h1
 have cz0 := cq_ hm.1 0 (.int .i64 a)
 have cz1 := cq_ hm.1 1 (.slice (some ⟨gr, 0, none⟩) 6 cr)
 have HM := am_ hm
 have HB := am_ hB
 have HA1 := am_ hr1
 have HV := am_ hv
 clear hm hr0 h0 h1 hr1 hB hv
 replace hk := am_ hk
 replace h8 := am_ h8
 replace h9 := am_ h9
 go_enter Try.func83, Try.ntmps83
 go_upto_region 4 with (first | ((with_reducible refine gate_dst (N := 8) rfl ?_); refine boxq_ (N := 8) (cs := #[.int .i64 0, .int .i64 0, .int .i64 0, .int .i64 0, .int .i64 0, .int .i64 0]) (t := 51) ?_; intro g8 hg w6 hbox hb; have HS := am_ (impl_run.Stp.new HM.out ha hge HB.out hg hbox hb); clear HM HB hg hbox hb) | ((with_reducible refine gate_store (t := 51) (p := 8) rfl ?_); refine wpList_store_rowTo rfl 51 (.tmp 8) (.tmp 18) rfl rfl g8 #[.int .i64 s.f0, .int .i64 s.f1, .int .i64 s.f2, .int .i64 s.f3, .int .i64 s.f4, .int .i64 s.f5] rfl rfl 51 _ HS.out.st impl_run.sz51 rfl y19_ ?_; have n0_ := am_ (HS.out.row s); clear HS; generalize World.setRow _ _ _ = W1 at n0_ ⊢; have HS := n0_; clear n0_ cz0 cz1 hx0 hx1 hx2 hx3 hx4 hx5; have cz0 := HS.out.cg 0 (v := .int .i64 a) rfl; have cz1 := HS.out.cg 1 (v := .slice (some ⟨gr, 0, none⟩) 6 cr) rfl))
 clear p0 q0 cz0 cz1
 have k1 : (s.f0 == 1) = false := by rw [hk.out]; rfl
 have k2 : (s.f0 == 2) = false := by rw [hk.out]; rfl
 have k3 : (s.f0 == 3) = false := by rw [hk.out]; rfl
 have k4 : (s.f0 == 4) = false := by rw [hk.out]; rfl
 have k5 : (s.f0 == 5) = false := by rw [hk.out]; rfl
 have k7 : (s.f0 == 7) = false := by rw [hk.out]; rfl
 have k6 : (s.f0 == 6) = false := by rw [hk.out]; rfl
 have k11 : (s.f0 == 11) = false := by rw [hk.out]; rfl
 have k8 : (s.f0 == 8) = false := by rw [hk.out]; rfl
 have k9 : (s.f0 == 9) = true := by rw [hk.out]; rfl
 have z0 := HS.out.c8 0 (v := .int .i64 s.f0) rfl
 go_upto_region 5 with (fail)
 have z2 := HS.out.c8 2 (v := .int .i64 s.f2) rfl
 have z3 := HS.out.c8 3 (v := .int .i64 s.f3) rfl
 have p2 := eq_true HV.out.1
 have q2 := eq_true HV.out.2.1
 have y2 := HS.out.cr_ _ HV.out.1 HV.out.2.1
 have p3 := eq_true HV.out.2.2.1
 have q3 := eq_true HV.out.2.2.2.1
 have y3 := HS.out.cr_ _ HV.out.2.2.1 HV.out.2.2.2.1
 have cq : (rd R s.f2 == rd R s.f3) = true := beq_iff_eq.mpr h9.out
 have k10_ : (s.f0 == 10) = false := by rw [hk.out]; rfl
 go_quiet (fail)
 go_upto_region 6 with (fail)
 clear z0 z2 z3 y2 y3 cq
 generalize hq_ : World.drewN _ _ = W2
 have n0_ := am_ (show impl_run.Stp w W0 g gr gc gs cr cc cs g8 s a R C S W2 from hq_ ▸ HS.out.drewN _)
 clear HS hq_
 have HS := n0_
 clear n0_
 have z5 := HS.out.c8 5 (v := .int .i64 s.f5) rfl
 go_upto_region 32 with (fail)
 clear z5
 have cz0 := HS.out.cg 0 (v := .int .i64 a) rfl
 have f0 := (HS.out.fr 0).1
 go_wp2
 go_ret2
 exact ⟨rfl, (HS.out.putA (wrap64 (wrap64 (a + 1) + s.f5))).m, (HS.out.putA (wrap64 (wrap64 (a + 1) + s.f5))).bl, (HS.out.putA (wrap64 (wrap64 (a + 1) + s.f5))).k⟩
set_option maxHeartbeats 8000000 in
set_option maxRecDepth 100000 in
theorem impl_run.step_k9b (w W0 : World) (g gr gc gs cr cc cs : Nat) (a : Int) (R C : List Int) (S : List Bool) (A0 : Option Addr) (c0 : Nat) (l0 : List S51) (A1 : Option Addr) (c1 : Nat) (l1 : List Int) (s : S51) (hm : impl_run.Mch w.heap.size g gr gc gs cr cc cs a R C S W0) (ha : impl_run.Ap g gr gc gs) (hge : w.heap.size ≤ g) (hB : Below w.heap.size w W0) (hr0 : Kd.C k51 w A0 l0.length l0) (hr1 : Kd.C (Kd.int .i64) w A1 l1.length l1) (h8 : l1.length = 8) (h0 : 0 ≤ a) (h1 : a < (l0.length : Int)) (hs : rd_T51 l0 a = s) (hv : impl_run.okS s) (hk : s.f0 = 9) (h9 : ¬ (rd R s.f2 = rd R s.f3)) :
  Calls Try.prog 83 #[.pointer (some ⟨g, 0, none⟩), .slice A0 l0.length c0, .slice A1 l1.length c1] W0 fun e W => e = .returned (.tuple #[.int .i64 0, .bool false]) ∧ impl_run.Mch w.heap.size g gr gc gs cr cc cs (wrap64 (a + 1)) R C S W ∧ Below w.heap.size w W ∧ Kept W0 W (fun k => k = g ∨ k = gr ∨ k = gc ∨ k = gs) := by
 have hu51 := Try.underlying51
 obtain ⟨ad, e206, hx0, hx1, hx2, hx3, hx4, hx5⟩ := at_T51 (Kd.C_below hr0 hB) a h0 h1
 subst e206
 rw [hs] at hx0 hx1 hx2 hx3 hx4 hx5
 clear hs
 have p0 := eq_true h0
 have q0 := eq_true h1
 have cz0 := cq_ hm.1 0 (.int .i64 a)
 have cz1 := cq_ hm.1 1 (.slice (some ⟨gr, 0, none⟩) 6 cr)
 have HM := am_ hm
 have HB := am_ hB
 have HA1 := am_ hr1
 have HV := am_ hv
 clear hm hr0 h0 h1 hr1 hB hv
 replace hk := am_ hk
 replace h8 := am_ h8
 replace h9 := am_ h9
 go_enter Try.func83, Try.ntmps83
 go_upto_region 4 with (first | ((with_reducible refine gate_dst (N := 8) rfl ?_); refine boxq_ (N := 8) (cs := #[.int .i64 0, .int .i64 0, .int .i64 0, .int .i64 0, .int .i64 0, .int .i64 0]) (t := 51) ?_; intro g8 hg w6 hbox hb; have HS := am_ (impl_run.Stp.new HM.out ha hge HB.out hg hbox hb); clear HM HB hg hbox hb) | ((with_reducible refine gate_store (t := 51) (p := 8) rfl ?_); refine wpList_store_rowTo rfl 51 (.tmp 8) (.tmp 18) rfl rfl g8 #[.int .i64 s.f0, .int .i64 s.f1, .int .i64 s.f2, .int .i64 s.f3, .int .i64 s.f4, .int .i64 s.f5] rfl rfl 51 _ HS.out.st impl_run.sz51 rfl y19_ ?_; have n0_ := am_ (HS.out.row s); clear HS; generalize World.setRow _ _ _ = W1 at n0_ ⊢; have HS := n0_; clear n0_ cz0 cz1 hx0 hx1 hx2 hx3 hx4 hx5; have cz0 := HS.out.cg 0 (v := .int .i64 a) rfl; have cz1 := HS.out.cg 1 (v := .slice (some ⟨gr, 0, none⟩) 6 cr) rfl))
 clear p0 q0 cz0 cz1
 have k1 : (s.f0 == 1) = false := by rw [hk.out]; rfl
 have k2 : (s.f0 == 2) = false := by rw [hk.out]; rfl
 have k3 : (s.f0 == 3) = false := by rw [hk.out]; rfl
 have k4 : (s.f0 == 4) = false := by rw [hk.out]; rfl
 have k5 : (s.f0 == 5) = false := by rw [hk.out]; rfl
 have k7 : (s.f0 == 7) = false := by rw [hk.out]; rfl
 have k6 : (s.f0 == 6) = false := by rw [hk.out]; rfl
 have k11 : (s.f0 == 11) = false := by rw [hk.out]; rfl
 have k8 : (s.f0 == 8) = false := by rw [hk.out]; rfl
 have k9 : (s.f0 == 9) = true := by rw [hk.out]; rfl
 have z0 := HS.out.c8 0 (v := .int .i64 s.f0) rfl
 go_upto_region 5 with (fail)
 have z2 := HS.out.c8 2 (v := .int .i64 s.f2) rfl
 have z3 := HS.out.c8 3 (v := .int .i64 s.f3) rfl
 have p2 := eq_true HV.out.1
 have q2 := eq_true HV.out.2.1
 have y2 := HS.out.cr_ _ HV.out.1 HV.out.2.1
 have p3 := eq_true HV.out.2.2.1
 have q3 := eq_true HV.out.2.2.2.1
 have y3 := HS.out.cr_ _ HV.out.2.2.1 HV.out.2.2.2.1
 have cq : (rd R s.f2 == rd R s.f3) = false := beq_eq_false_iff_ne.mpr h9.out
 have k10_ : (s.f0 == 10) = false := by rw [hk.out]; rfl
 go_quiet (fail)
 go_upto_region 32 with (fail)
 clear z0 z2 z3 y2 y3 cq
 generalize hq_ : World.drewN _ _ = W2
 have n0_ := am_ (show impl_run.Stp w W0 g gr gc gs cr cc cs g8 s a R C S W2 from hq_ ▸ HS.out.drewN _)
 clear HS hq_
 have HS := n0_
 clear n0_
 have cz0 := HS.out.cg 0 (v := .int .i64 a) rfl
 have f0 := (HS.out.fr 0).1
 go_wp2
 go_ret2
 exact ⟨rfl, (HS.out.putA (wrap64 (a + 1))).m, (HS.out.putA (wrap64 (a + 1))).bl, (HS.out.putA (wrap64 (a + 1))).k⟩
set_option maxHeartbeats 8000000 in
set_option maxRecDepth 100000 in
theorem impl_run.step_k10a (w W0 : World) (g gr gc gs cr cc cs : Nat) (a : Int) (R C : List Int) (S : List Bool) (A0 : Option Addr) (c0 : Nat) (l0 : List S51) (A1 : Option Addr) (c1 : Nat) (l1 : List Int) (s : S51) (hm : impl_run.Mch w.heap.size g gr gc gs cr cc cs a R C S W0) (ha : impl_run.Ap g gr gc gs) (hge : w.heap.size ≤ g) (hB : Below w.heap.size w W0) (hr0 : Kd.C k51 w A0 l0.length l0) (hr1 : Kd.C (Kd.int .i64) w A1 l1.length l1) (h8 : l1.length = 8) (h0 : 0 ≤ a) (h1 : a < (l0.length : Int)) (hs : rd_T51 l0 a = s) (hv : impl_run.okS s) (hk : s.f0 = 10) (h9 : (rd R s.f2 < rd R s.f3)) :
  Calls Try.prog 83 #[.pointer (some ⟨g, 0, none⟩), .slice A0 l0.length c0, .slice A1 l1.length c1] W0 fun e W => e = .returned (.tuple #[.int .i64 0, .bool false]) ∧ impl_run.Mch w.heap.size g gr gc gs cr cc cs (wrap64 (wrap64 (a + 1) + s.f5)) R C S W ∧ Below w.heap.size w W ∧ Kept W0 W (fun k => k = g ∨ k = gr ∨ k = gc ∨ k = gs) := by
 have hu51 := Try.underlying51
 obtain ⟨ad, e206, hx0, hx1, hx2, hx3, hx4, hx5⟩ := at_T51 (Kd.C_below hr0 hB) a h0 h1
 subst e206
 rw [hs] at hx0 hx1 hx2 hx3 hx4 hx5
 clear hs
 have p0 := eq_true h0
 have q0 := eq_true h1
 have cz0 := cq_ hm.1 0 (.int .i64 a)
 have cz1 := cq_ hm.1 1 (.slice (some ⟨gr, 0, none⟩) 6 cr)
 have HM := am_ hm
 have HB := am_ hB
 have HA1 := am_ hr1
 have HV := am_ hv
 clear hm hr0 h0 h1 hr1 hB hv
 replace hk := am_ hk
 replace h8 := am_ h8
 replace h9 := am_ h9
 go_enter Try.func83, Try.ntmps83
 go_upto_region 4 with (first | ((with_reducible refine gate_dst (N := 8) rfl ?_); refine boxq_ (N := 8) (cs := #[.int .i64 0, .int .i64 0, .int .i64 0, .int .i64 0, .int .i64 0, .int .i64 0]) (t := 51) ?_; intro g8 hg w6 hbox hb; have HS := am_ (impl_run.Stp.new HM.out ha hge HB.out hg hbox hb); clear HM HB hg hbox hb) | ((with_reducible refine gate_store (t := 51) (p := 8) rfl ?_); refine wpList_store_rowTo rfl 51 (.tmp 8) (.tmp 18) rfl rfl g8 #[.int .i64 s.f0, .int .i64 s.f1, .int .i64 s.f2, .int .i64 s.f3, .int .i64 s.f4, .int .i64 s.f5] rfl rfl 51 _ HS.out.st impl_run.sz51 rfl y19_ ?_; have n0_ := am_ (HS.out.row s); clear HS; generalize World.setRow _ _ _ = W1 at n0_ ⊢; have HS := n0_; clear n0_ cz0 cz1 hx0 hx1 hx2 hx3 hx4 hx5; have cz0 := HS.out.cg 0 (v := .int .i64 a) rfl; have cz1 := HS.out.cg 1 (v := .slice (some ⟨gr, 0, none⟩) 6 cr) rfl))
 clear p0 q0 cz0 cz1
 have k1 : (s.f0 == 1) = false := by rw [hk.out]; rfl
 have k2 : (s.f0 == 2) = false := by rw [hk.out]; rfl
 have k3 : (s.f0 == 3) = false := by rw [hk.out]; rfl
 have k4 : (s.f0 == 4) = false := by rw [hk.out]; rfl
 have k5 : (s.f0 == 5) = false := by rw [hk.out]; rfl
 have k7 : (s.f0 == 7) = false := by rw [hk.out]; rfl
 have k6 : (s.f0 == 6) = false := by rw [hk.out]; rfl
 have k11 : (s.f0 == 11) = false := by rw [hk.out]; rfl
 have k8 : (s.f0 == 8) = false := by rw [hk.out]; rfl
 have k9 : (s.f0 == 9) = false := by rw [hk.out]; rfl
 have k10 : (s.f0 == 10) = true := by rw [hk.out]; rfl
 have z0 := HS.out.c8 0 (v := .int .i64 s.f0) rfl
 go_upto_region 5 with (fail)
 have z2 := HS.out.c8 2 (v := .int .i64 s.f2) rfl
 have z3 := HS.out.c8 3 (v := .int .i64 s.f3) rfl
 have p2 := eq_true HV.out.1
 have q2 := eq_true HV.out.2.1
 have y2 := HS.out.cr_ _ HV.out.1 HV.out.2.1
 have p3 := eq_true HV.out.2.2.1
 have q3 := eq_true HV.out.2.2.2.1
 have y3 := HS.out.cr_ _ HV.out.2.2.1 HV.out.2.2.2.1
 have cq : decide (rd R s.f2 < rd R s.f3) = true := decide_eq_true h9.out
 have k10_ : (s.f0 == 10) = true := by rw [hk.out]; rfl
 go_quiet (fail)
 go_upto_region 6 with (fail)
 clear z0 z2 z3 y2 y3 cq
 generalize hq_ : World.drewN _ _ = W2
 have n0_ := am_ (show impl_run.Stp w W0 g gr gc gs cr cc cs g8 s a R C S W2 from hq_ ▸ HS.out.drewN _)
 clear HS hq_
 have HS := n0_
 clear n0_
 have z5 := HS.out.c8 5 (v := .int .i64 s.f5) rfl
 go_upto_region 32 with (fail)
 clear z5
 have cz0 := HS.out.cg 0 (v := .int .i64 a) rfl
 have f0 := (HS.out.fr 0).1
 go_wp2
 go_ret2
 exact ⟨rfl, (HS.out.putA (wrap64 (wrap64 (a + 1) + s.f5))).m, (HS.out.putA (wrap64 (wrap64 (a + 1) + s.f5))).bl, (HS.out.putA (wrap64 (wrap64 (a + 1) + s.f5))).k⟩
set_option maxHeartbeats 8000000 in
set_option maxRecDepth 100000 in
theorem impl_run.step_k10b (w W0 : World) (g gr gc gs cr cc cs : Nat) (a : Int) (R C : List Int) (S : List Bool) (A0 : Option Addr) (c0 : Nat) (l0 : List S51) (A1 : Option Addr) (c1 : Nat) (l1 : List Int) (s : S51) (hm : impl_run.Mch w.heap.size g gr gc gs cr cc cs a R C S W0) (ha : impl_run.Ap g gr gc gs) (hge : w.heap.size ≤ g) (hB : Below w.heap.size w W0) (hr0 : Kd.C k51 w A0 l0.length l0) (hr1 : Kd.C (Kd.int .i64) w A1 l1.length l1) (h8 : l1.length = 8) (h0 : 0 ≤ a) (h1 : a < (l0.length : Int)) (hs : rd_T51 l0 a = s) (hv : impl_run.okS s) (hk : s.f0 = 10) (h9 : ¬ (rd R s.f2 < rd R s.f3)) :
  Calls Try.prog 83 #[.pointer (some ⟨g, 0, none⟩), .slice A0 l0.length c0, .slice A1 l1.length c1] W0 fun e W => e = .returned (.tuple #[.int .i64 0, .bool false]) ∧ impl_run.Mch w.heap.size g gr gc gs cr cc cs (wrap64 (a + 1)) R C S W ∧ Below w.heap.size w W ∧ Kept W0 W (fun k => k = g ∨ k = gr ∨ k = gc ∨ k = gs) := by
 have hu51 := Try.underlying51
 obtain ⟨ad, e206, hx0, hx1, hx2, hx3, hx4, hx5⟩ := at_T51 (Kd.C_below hr0 hB) a h0 h1
 subst e206
 rw [hs] at hx0 hx1 hx2 hx3 hx4 hx5
 clear hs
 have p0 := eq_true h0
 have q0 := eq_true h1
 have cz0 := cq_ hm.1 0 (.int .i64 a)
 have cz1 := cq_ hm.1 1 (.slice (some ⟨gr, 0, none⟩) 6 cr)
 have HM := am_ hm
 have HB := am_ hB
 have HA1 := am_ hr1
 have HV := am_ hv
 clear hm hr0 h0 h1 hr1 hB hv
 replace hk := am_ hk
 replace h8 := am_ h8
 replace h9 := am_ h9
 go_enter Try.func83, Try.ntmps83
 go_upto_region 4 with (first | ((with_reducible refine gate_dst (N := 8) rfl ?_); refine boxq_ (N := 8) (cs := #[.int .i64 0, .int .i64 0, .int .i64 0, .int .i64 0, .int .i64 0, .int .i64 0]) (t := 51) ?_; intro g8 hg w6 hbox hb; have HS := am_ (impl_run.Stp.new HM.out ha hge HB.out hg hbox hb); clear HM HB hg hbox hb) | ((with_reducible refine gate_store (t := 51) (p := 8) rfl ?_); refine wpList_store_rowTo rfl 51 (.tmp 8) (.tmp 18) rfl rfl g8 #[.int .i64 s.f0, .int .i64 s.f1, .int .i64 s.f2, .int .i64 s.f3, .int .i64 s.f4, .int .i64 s.f5] rfl rfl 51 _ HS.out.st impl_run.sz51 rfl y19_ ?_; have n0_ := am_ (HS.out.row s); clear HS; generalize World.setRow _ _ _ = W1 at n0_ ⊢; have HS := n0_; clear n0_ cz0 cz1 hx0 hx1 hx2 hx3 hx4 hx5; have cz0 := HS.out.cg 0 (v := .int .i64 a) rfl; have cz1 := HS.out.cg 1 (v := .slice (some ⟨gr, 0, none⟩) 6 cr) rfl))
 clear p0 q0 cz0 cz1
 have k1 : (s.f0 == 1) = false := by rw [hk.out]; rfl
 have k2 : (s.f0 == 2) = false := by rw [hk.out]; rfl
 have k3 : (s.f0 == 3) = false := by rw [hk.out]; rfl
 have k4 : (s.f0 == 4) = false := by rw [hk.out]; rfl
 have k5 : (s.f0 == 5) = false := by rw [hk.out]; rfl
 have k7 : (s.f0 == 7) = false := by rw [hk.out]; rfl
 have k6 : (s.f0 == 6) = false := by rw [hk.out]; rfl
 have k11 : (s.f0 == 11) = false := by rw [hk.out]; rfl
 have k8 : (s.f0 == 8) = false := by rw [hk.out]; rfl
 have k9 : (s.f0 == 9) = false := by rw [hk.out]; rfl
 have k10 : (s.f0 == 10) = true := by rw [hk.out]; rfl
 have z0 := HS.out.c8 0 (v := .int .i64 s.f0) rfl
 go_upto_region 5 with (fail)
 have z2 := HS.out.c8 2 (v := .int .i64 s.f2) rfl
 have z3 := HS.out.c8 3 (v := .int .i64 s.f3) rfl
 have p2 := eq_true HV.out.1
 have q2 := eq_true HV.out.2.1
 have y2 := HS.out.cr_ _ HV.out.1 HV.out.2.1
 have p3 := eq_true HV.out.2.2.1
 have q3 := eq_true HV.out.2.2.2.1
 have y3 := HS.out.cr_ _ HV.out.2.2.1 HV.out.2.2.2.1
 have cq : decide (rd R s.f2 < rd R s.f3) = false := decide_eq_false h9.out
 have k10_ : (s.f0 == 10) = true := by rw [hk.out]; rfl
 go_quiet (fail)
 go_upto_region 32 with (fail)
 clear z0 z2 z3 y2 y3 cq
 generalize hq_ : World.drewN _ _ = W2
 have n0_ := am_ (show impl_run.Stp w W0 g gr gc gs cr cc cs g8 s a R C S W2 from hq_ ▸ HS.out.drewN _)
 clear HS hq_
 have HS := n0_
 clear n0_
 have cz0 := HS.out.cg 0 (v := .int .i64 a) rfl
 have f0 := (HS.out.fr 0).1
 go_wp2
 go_ret2
 exact ⟨rfl, (HS.out.putA (wrap64 (a + 1))).m, (HS.out.putA (wrap64 (a + 1))).bl, (HS.out.putA (wrap64 (a + 1))).k⟩
set_option maxHeartbeats 8000000 in
theorem impl_run.step_calls (w W0 : World) (g gr gc gs cr cc cs : Nat) (a : Int) (R C : List Int) (S : List Bool) (A0 : Option Addr) (c0 : Nat) (l0 : List S51) (A1 : Option Addr) (c1 : Nat) (l1 : List Int) (s : S51) (hm : impl_run.Mch w.heap.size g gr gc gs cr cc cs a R C S W0) (ha : impl_run.Ap g gr gc gs) (hge : w.heap.size ≤ g) (hB : Below w.heap.size w W0) (hr0 : Kd.C k51 w A0 l0.length l0) (hr1 : Kd.C (Kd.int .i64) w A1 l1.length l1) (h8 : l1.length = 8) (h0 : 0 ≤ a) (h1 : a < (l0.length : Int)) (hs : rd_T51 l0 a = s) (hv : impl_run.okS s) (r1 : Int) (r2 : Bool) (a2 : Int) (R2 C2 : List Int) (S2 : List Bool) (h : impl_run.stp s l1 a R C S = some (r1, r2, a2, R2, C2, S2)) :
  Calls Try.prog 83 #[.pointer (some ⟨g, 0, none⟩), .slice A0 l0.length c0, .slice A1 l1.length c1] W0 fun e W => e = .returned (.tuple #[.int .i64 r1, .bool r2]) ∧ impl_run.Mch w.heap.size g gr gc gs cr cc cs a2 R2 C2 S2 W ∧ Below w.heap.size w W ∧ Kept W0 W (fun k => k = g ∨ k = gr ∨ k = gc ∨ k = gs) := by
 unfold impl_run.stp at h
 by_cases e1 : s.f0 = 1
 ·rw [if_pos e1] at h
  obtain ⟨t, hdo, h⟩ := Option.bind_eq_some_iff.mp h
  simp only [Option.some.injEq, Prod.mk.injEq] at h; obtain ⟨rfl, rfl, rfl, rfl, rfl, rfl⟩ := h
  exact impl_run.step_k1 w W0 g gr gc gs cr cc cs a R C S A0 c0 l0 A1 c1 l1 s hm ha hge hB hr0 hr1 h8 h0 h1 hs hv e1 _ hdo
 ·rw [if_neg e1] at h
  by_cases e2 : s.f0 = 2
  ·rw [if_pos e2] at h
   obtain ⟨t, hdo, h⟩ := Option.bind_eq_some_iff.mp h
   simp only [Option.some.injEq, Prod.mk.injEq] at h; obtain ⟨rfl, rfl, rfl, rfl, rfl, rfl⟩ := h
   exact impl_run.step_k2 w W0 g gr gc gs cr cc cs a R C S A0 c0 l0 A1 c1 l1 s hm ha hge hB hr0 hr1 h8 h0 h1 hs hv e2 _ hdo
  ·rw [if_neg e2] at h
   by_cases e3 : s.f0 = 3 ∨ s.f0 = 4
   ·rw [if_pos e3] at h
    simp only [Option.some.injEq, Prod.mk.injEq] at h; obtain ⟨rfl, rfl, rfl, rfl, rfl, rfl⟩ := h
    rcases e3 with e | e
    ·exact impl_run.step_k3 w W0 g gr gc gs cr cc cs a R C S A0 c0 l0 A1 c1 l1 s hm ha hge hB hr0 hr1 h8 h0 h1 hs hv e
    ·exact impl_run.step_k4 w W0 g gr gc gs cr cc cs a R C S A0 c0 l0 A1 c1 l1 s hm ha hge hB hr0 hr1 h8 h0 h1 hs hv e
   ·rw [if_neg e3] at h
    by_cases e4 : s.f0 = 5
    ·rw [if_pos e4] at h
     obtain ⟨t, ht⟩ : ∃ t_ : Int, (wrap64 (rd R s.f3 + s.f4)) = t_ := ⟨_, rfl⟩
     rw [ht] at h
     by_cases f1 : t ≥ 8
     ·rw [if_pos f1] at h; simp only [Option.some.injEq, Prod.mk.injEq] at h; obtain ⟨rfl, rfl, rfl, rfl, rfl, rfl⟩ := h; exact impl_run.step_k5a w W0 g gr gc gs cr cc cs a R C S A0 c0 l0 A1 c1 l1 s hm ha hge hB hr0 hr1 h8 h0 h1 hs hv e4 _ ht f1
     ·rw [if_neg f1] at h
      by_cases f2 : 0 ≤ t
      ·rw [if_pos f2] at h; simp only [Option.some.injEq, Prod.mk.injEq] at h; obtain ⟨rfl, rfl, rfl, rfl, rfl, rfl⟩ := h; exact impl_run.step_k5b w W0 g gr gc gs cr cc cs a R C S A0 c0 l0 A1 c1 l1 s hm ha hge hB hr0 hr1 h8 h0 h1 hs hv e4 _ ht f1 f2
      ·rw [if_neg f2] at h; cases h
    ·rw [if_neg e4] at h
     by_cases e5 : s.f0 = 7
     ·rw [if_pos e5] at h
      by_cases f1 : s.f4 ≥ 16
      ·rw [if_pos f1] at h; simp only [Option.some.injEq, Prod.mk.injEq] at h; obtain ⟨rfl, rfl, rfl, rfl, rfl, rfl⟩ := h; exact impl_run.step_k7a w W0 g gr gc gs cr cc cs a R C S A0 c0 l0 A1 c1 l1 s hm ha hge hB hr0 hr1 h8 h0 h1 hs hv e5 f1
      ·rw [if_neg f1] at h; simp only [Option.some.injEq, Prod.mk.injEq] at h; obtain ⟨rfl, rfl, rfl, rfl, rfl, rfl⟩ := h; exact impl_run.step_k7b w W0 g gr gc gs cr cc cs a R C S A0 c0 l0 A1 c1 l1 s hm ha hge hB hr0 hr1 h8 h0 h1 hs hv e5 (by omega)
     ·rw [if_neg e5] at h
      by_cases e6 : s.f0 = 6
      ·rw [if_pos e6] at h
       by_cases f1 : s.f4 ≥ 16
       ·rw [if_pos f1] at h; simp only [Option.some.injEq, Prod.mk.injEq] at h; obtain ⟨rfl, rfl, rfl, rfl, rfl, rfl⟩ := h; exact impl_run.step_k6a w W0 g gr gc gs cr cc cs a R C S A0 c0 l0 A1 c1 l1 s hm ha hge hB hr0 hr1 h8 h0 h1 hs hv e6 f1
       ·rw [if_neg f1] at h
        by_cases f2 : rdOf false S s.f4 = true
        ·rw [if_pos f2] at h; simp only [Option.some.injEq, Prod.mk.injEq] at h; obtain ⟨rfl, rfl, rfl, rfl, rfl, rfl⟩ := h; exact impl_run.step_k6c w W0 g gr gc gs cr cc cs a R C S A0 c0 l0 A1 c1 l1 s hm ha hge hB hr0 hr1 h8 h0 h1 hs hv e6 (by omega) f2
        ·rw [if_neg f2] at h; simp only [Option.some.injEq, Prod.mk.injEq] at h; obtain ⟨rfl, rfl, rfl, rfl, rfl, rfl⟩ := h; exact impl_run.step_k6b w W0 g gr gc gs cr cc cs a R C S A0 c0 l0 A1 c1 l1 s hm ha hge hB hr0 hr1 h8 h0 h1 hs hv e6 (by omega) (Bool.eq_false_iff.mpr f2)
      ·rw [if_neg e6] at h
       by_cases e7 : s.f0 = 11
       ·rw [if_pos e7] at h
        simp only [Option.some.injEq, Prod.mk.injEq] at h; obtain ⟨rfl, rfl, rfl, rfl, rfl, rfl⟩ := h
        exact impl_run.step_k11 w W0 g gr gc gs cr cc cs a R C S A0 c0 l0 A1 c1 l1 s hm ha hge hB hr0 hr1 h8 h0 h1 hs hv e7
       ·rw [if_neg e7] at h
        by_cases e8 : s.f0 = 8
        ·rw [if_pos e8] at h
         simp only [Option.some.injEq, Prod.mk.injEq] at h; obtain ⟨rfl, rfl, rfl, rfl, rfl, rfl⟩ := h
         exact impl_run.step_k8 w W0 g gr gc gs cr cc cs a R C S A0 c0 l0 A1 c1 l1 s hm ha hge hB hr0 hr1 h8 h0 h1 hs hv e8
        ·rw [if_neg e8] at h
         by_cases e9 : s.f0 = 9
         ·rw [if_pos e9] at h
          by_cases f1 : rd R s.f2 = rd R s.f3
          ·rw [if_pos f1] at h; simp only [Option.some.injEq, Prod.mk.injEq] at h; obtain ⟨rfl, rfl, rfl, rfl, rfl, rfl⟩ := h; exact impl_run.step_k9a w W0 g gr gc gs cr cc cs a R C S A0 c0 l0 A1 c1 l1 s hm ha hge hB hr0 hr1 h8 h0 h1 hs hv e9 f1
          ·rw [if_neg f1] at h; simp only [Option.some.injEq, Prod.mk.injEq] at h; obtain ⟨rfl, rfl, rfl, rfl, rfl, rfl⟩ := h; exact impl_run.step_k9b w W0 g gr gc gs cr cc cs a R C S A0 c0 l0 A1 c1 l1 s hm ha hge hB hr0 hr1 h8 h0 h1 hs hv e9 f1
         ·rw [if_neg e9] at h
          by_cases e10 : s.f0 = 10
          ·rw [if_pos e10] at h
           by_cases f1 : rd R s.f2 < rd R s.f3
           ·rw [if_pos f1] at h; simp only [Option.some.injEq, Prod.mk.injEq] at h; obtain ⟨rfl, rfl, rfl, rfl, rfl, rfl⟩ := h; exact impl_run.step_k10a w W0 g gr gc gs cr cc cs a R C S A0 c0 l0 A1 c1 l1 s hm ha hge hB hr0 hr1 h8 h0 h1 hs hv e10 f1
           ·rw [if_neg f1] at h; simp only [Option.some.injEq, Prod.mk.injEq] at h; obtain ⟨rfl, rfl, rfl, rfl, rfl, rfl⟩ := h; exact impl_run.step_k10b w W0 g gr gc gs cr cc cs a R C S A0 c0 l0 A1 c1 l1 s hm ha hge hB hr0 hr1 h8 h0 h1 hs hv e10 f1
          ·rw [if_neg e10] at h
           cases h
instance (s : S51) : Decidable (impl_run.okS s) := by unfold impl_run.okS; infer_instance
def impl_run.l0 : Nat → List S51 → List Int → Int → List Int → Int → List Int → List Int → List Bool → Option (Int × Int × Int × List Int)
 | 0, _, _, _, _, _, _, _, _ => none
 | k + 1, p, ctx, fuel, tr, a, R, C, S => if (tr.length : Int) = fuel then some (0, 4, a, tr) else (if tr.length < 17592186044416 then (if 0 ≤ a ∧ a < (p.length : Int) ∧ impl_run.okS (rd_T51 p a) ∧ ctx.length = 8 then ((impl_run.stp (rd_T51 p a) ctx a R C S).bind fun q => (if q.1 = 0 then (if q.2.1 = true then some (rd q.2.2.2.1 0, 0, 0, tr ++ [a]) else impl_run.l0 k p ctx fuel (tr ++ [a]) q.2.2.1 q.2.2.2.1 q.2.2.2.2.1 q.2.2.2.2.2) else some (0, q.1, a, tr ++ [a]))) else none) else none)
def impl_run.f (k : Nat) (p : List S51) (ctx : List Int) (fuel : Int) : Option (Int × Int × Int × List Int) := impl_run.l0 k p ctx fuel [] 0 (List.replicate 6 0) (List.replicate 16 0) (List.replicate 16 false)
theorem impl_run.results4 {fn : Func} {t u v x : Tmp} (h : fn.results = #[.tmp t, .tmp u, .tmp v, .tmp x]) (tmps : Array Value) (P : Program) (w : World) :
  (results fn tmps).run P w = .ok (.tuple #[tmps.getD t undef, tmps.getD u undef, tmps.getD v undef, tmps.getD x undef]) w := by
 simp [results, h]
theorem impl_run.Mch.made {w W0 W1 W2 : World} {g : Nat} {v1 v2 v3 : Value} {R C : List Int} {S : List Bool} (hB : Below w.heap.size w W0) (h1 : Kd.R (Kd.int .i64) 3 W1 W0.heap.size (fun k => some k ≠ v2.ownBlock) v1 R) (h2 : Kd.R (Kd.int .i64) 3 W1 W0.heap.size (fun k => some k ≠ v1.ownBlock) v2 C) (h3 : Kd.R Kd.bool 4 W1 W0.heap.size (fun _ => True) v3 S) (l1 : R.length = 6) (l2 : C.length = 16) (l3 : S.length = 16) (hg : g = W1.heap.size) (hb : Below W1.heap.size W1 W2) :
  ∃ gr gc gs cr cc cs, v1 = .slice (some ⟨gr, 0, none⟩) 6 cr ∧ v2 = .slice (some ⟨gc, 0, none⟩) 16 cc ∧ v3 = .slice (some ⟨gs, 0, none⟩) 16 cs ∧ impl_run.Ap g gr gc gs ∧ Kd.R (Kd.int .i64) 3 W2 w.heap.size (fun k => k = gr) v1 R ∧ Kd.R (Kd.int .i64) 3 W2 w.heap.size (fun k => k = gc) v2 C ∧ Kd.R Kd.bool 4 W2 w.heap.size (fun k => k = gs) v3 S := by
 obtain ⟨gr, cr, rfl, b1, lt1, x1, c1⟩ := Kd.R_form h1 (by omega)
 obtain ⟨gc, cc, rfl, b2, lt2, x2, c2⟩ := Kd.R_form h2 (by omega)
 obtain ⟨gs, cs, rfl, b3, lt3, x3, c3⟩ := Kd.R_form h3 (by omega)
 refine ⟨gr, gc, gs, cr, cc, cs, by rw [l1], by rw [l2], by rw [l3], ⟨by omega, by omega, by omega, fun e => h1.1 gr rfl (by subst e; rfl), blk_ne c1 c3 (by decide), blk_ne c2 c3 (by decide)⟩, ?_, ?_, ?_⟩
 ·exact Kd.R_below (Kd.R_lower (Kd.R_mono (Kd.R_tight rfl h1) (fun k hk => by simpa [Value.ownBlock] using hk)) hB.size) hb
 ·exact Kd.R_below (Kd.R_lower (Kd.R_mono (Kd.R_tight rfl h2) (fun k hk => by simpa [Value.ownBlock] using hk)) hB.size) hb
 ·exact Kd.R_below (Kd.R_lower (Kd.R_mono (Kd.R_tight rfl h3) (fun k hk => by simpa [Value.ownBlock] using hk)) hB.size) hb
theorem impl_run.sz81 : (Try.prog.info? 81).map (·.size) = some 4 := by kernel_rfl
set_option maxHeartbeats 8000000 in
set_option maxRecDepth 100000 in
theorem impl_run.calls (k : Nat) (A0 : Option Addr) (c0 : Nat) (l0 : List S51) (A1 : Option Addr) (c1 : Nat) (l1 : List Int) (a2 : Int) (r1 r2 r3 : Int) (r4 : List Int) (w : World) (hr0 : Kd.C k51 w A0 l0.length l0) (hc0 : l0.length ≤ c0) (hr1 : Kd.C (Kd.int .i64) w A1 l1.length l1) (hc1 : l1.length ≤ c1) (h : impl_run.f k l0 l1 a2 = some (r1, r2, r3, r4)) :
  Calls Try.prog 69 #[.slice A0 l0.length c0, .slice A1 l1.length c1, .int .i64 a2] w fun e w' => ∃ v0_ : Value, e = .returned (.tuple #[.int .i64 r1, .int .i64 r2, .int .i64 r3, v0_]) ∧ Kd.R (Kd.int .i64) 3 w' w.heap.size (fun _ => True) v0_ r4 ∧ Below w.heap.size w w' := by
 have HR0 := am_ hr0
 have HR1 := am_ hr1
 have HB := am_ (Below.refl w.heap.size w)
 unfold impl_run.f at h
 have H' := am_ h
 clear h hr0 hr1
 have hnew : impl_NewMachine.f = some (0, List.replicate 6 0, List.replicate 16 0, List.replicate 16 false) := by unfold impl_NewMachine.f; rw [if_pos (by decide), if_pos (by decide), if_pos (by decide)]
 replace hnew := am_ hnew
 have eg := fun args w => enters_ (P := Try.prog) Try.func82 (by kernel_rfl) rfl args w
 go_enter Try.func69, Try.ntmps69
 go_wp2_with (first | (go_at_call 82; refine (impl_NewMachine.calls _ _ _ _ _ hnew.out).mono ?_; rintro e W1 ⟨v1, v2, v3, rfl, hR, hC, hS, hb⟩; have HN := am_ (And.intro hR (And.intro hC (And.intro hS hb))); clear hR hC hS hb) | ((with_reducible refine gate_dst (N := 10) rfl ?_); refine boxq_ (N := 10) (cs := #[.int .i64 0, .slice none 0 0, .slice none 0 0, .slice none 0 0]) (t := 81) ?_; intro g hg W2 hbox hb; obtain ⟨hR, hC, hS, hb1⟩ := HN.out; obtain ⟨gr, gc, gs, cr, cc, cs, rfl, rfl, rfl, hap, hR2, hC2, hS2⟩ := impl_run.Mch.made HB.out hR hC hS (by simp) (by simp) (by simp) hg hb; have HAP := am_ hap; have HM := am_ (And.intro hR2 (And.intro hC2 hS2)); have BK := am_ hbox; have HGE := am_ (show w.heap.size ≤ g from by rw [hg]; exact hb1.size); replace HB := am_ (below_step hb1 hb); clear HN hR hC hS hb1 hap hR2 hC2 hS2 hbox hb hg) | ((with_reducible refine gate_store (t := 81) (p := 10) rfl ?_); refine wpList_store_rowTo rfl 81 (.tmp 10) (.tmp 15) rfl rfl g #[.int .i64 0, .slice (some ⟨gr, 0, none⟩) 6 cr, .slice (some ⟨gc, 0, none⟩) 16 cc, .slice (some ⟨gs, 0, none⟩) 16 cs] rfl rfl 81 _ BK.out impl_run.sz81 rfl y19_ ?_; have n0_ := am_ (show impl_run.Mch w.heap.size g gr gc gs cr cc cs 0 _ _ _ (W2.setRow g #[.int .i64 0, .slice (some ⟨gr, 0, none⟩) 6 cr, .slice (some ⟨gc, 0, none⟩) 16 cc, .slice (some ⟨gs, 0, none⟩) 16 cs]) from ⟨setRow_heap W2 g _ _ _ _ BK.out, Kd.R_step HM.out.1 (fun k_ hk_ _ => setRow_other W2 g k_ _ (by have := HAP.out.a; omega)), Kd.R_step HM.out.2.1 (fun k_ hk_ _ => setRow_other W2 g k_ _ (by have := HAP.out.b; omega)), Kd.R_step HM.out.2.2 (fun k_ hk_ _ => setRow_other W2 g k_ _ (by have := HAP.out.c; omega))⟩); have n1_ := am_ (show Below w.heap.size w (W2.setRow g #[.int .i64 0, .slice (some ⟨gr, 0, none⟩) 6 cr, .slice (some ⟨gc, 0, none⟩) 16 cc, .slice (some ⟨gs, 0, none⟩) 16 cs]) from ⟨HB.out.os, HB.out.tape, HB.out.output, by rw [setRow_size]; exact HB.out.size, fun k_ hk_ => (setRow_other W2 g k_ _ (by have := HGE.out; omega)).trans (HB.out.block k_ hk_)⟩); clear HM HB BK; generalize World.setRow _ _ _ = W3 at n0_ n1_ ⊢; have HM := n0_; have HB := n1_; clear n0_ n1_))
 go_loopg [11] k (fun kq v11 w' => ∃ (tr : List Int) (a : Int) (R C : List Int) (S : List Bool), Aside0 (impl_run.l0 kq l0 l1 a2 tr a R C S = some (r1, r2, r3, r4)) ∧ Aside0 (kq ≤ k) ∧ Aside0 (impl_run.Mch w.heap.size g gr gc gs cr cc cs a R C S w') ∧ Aside0 (Kd.R (Kd.int .i64) 3 w' w.heap.size (fun k_ => k_ ≠ g ∧ k_ ≠ gr ∧ k_ ≠ gc ∧ k_ ≠ gs) v11 tr) ∧ Aside0 (Below w.heap.size w w'))
 case atStart => exact ⟨_, _, _, _, _, H', ⟨Nat.le_refl _⟩, HM, ⟨Kd.R_nil _ _ _ _ _⟩, HB⟩
 case round =>
  clear H' HM HB
  obtain ⟨tr, a, R, C, S, HA, HK1, HM, HO, HB⟩ := hrel
  cases gk with
  | zero => exact absurd HA.out (by simp [impl_run.l0])
  | succ k1 =>
   have H := HA.out
   clear HA
   simp only [impl_run.l0] at H
   obtain ⟨At, ct, et⟩ := Kd.R_slice HO.out
   subst et
   have cz0 := cq_ HM.out.1 0 (.int .i64 a)
   by_cases c4 : (tr.length : Int) = a2
   ·rw [if_pos c4] at H
    have c4b : ((tr.length : Int) == a2) = true := beq_iff_eq.mpr c4
    simp only [Option.some.injEq, Prod.mk.injEq] at H
    obtain ⟨rfl, rfl, rfl, rfl⟩ := H
    clear c4
    go_wp2
    ((try simp only [Exit.inBlock, Exit.then]); refine bodyPost_ret (impl_run.results4 rfl _ _ _) rfl ?_)
    exact ⟨_, rfl, Kd.R_mono HO.out (fun _ _ => trivial), HB.out⟩
   ·rw [if_neg c4] at H
    have c4b : ((tr.length : Int) == a2) = false := beq_eq_false_iff_ne.mpr c4
    clear c4
    by_cases c5 : tr.length < 17592186044416
    ·rw [if_pos c5] at H
     have LM := am_ c5
     clear c5
     by_cases c6 : 0 ≤ a ∧ a < (l0.length : Int) ∧ impl_run.okS (rd_T51 l0 a) ∧ l1.length = 8
     ·rw [if_pos c6] at H
      have HC6 := am_ c6
      clear c6
      obtain ⟨⟨f1, f2, a', R', C', S'⟩, A70, H⟩ := Option.bind_eq_some_iff.mp H
      have A7 := am_ A70
      clear A70
      dsimp only at H
      have HH := am_ H
      clear H
      have eg2 := fun args w => enters_ (P := Try.prog) Try.func83 (by kernel_rfl) rfl args w
      go_upto_region 8 with (first | ((with_reducible refine gate_builtin (b := .append) (xs := #[.tmp 24, .tmp 26]) rfl ?_); at_builtin; refine Kd.R_append (Kd.int .i64) (w0 := w) w.heap.size rfl (.tmp 24) (.tmp 26) 30 3 (.int .i64 0) 8 rfl Try.underlying30 info3 rfl (by decide) (by omega) (.slice At tr.length ct) tr a [.int .i64 a] (fun k_ => k_ ≠ g ∧ k_ ≠ gr ∧ k_ ≠ gc ∧ k_ ≠ gs) (fun _ => False) rfl rfl ?aP (fun _ hk => hk.elim) ?aF ?aO ?aB ?aS ?aL ?_; (case aP => exact rfl); (case aB => exact HB.out); (case aF => exact (fun k_ hk_ => by have h1 := blk_lt HM.out.1; have h2 := Kd.R_lt HM.out.2.1 gr rfl; have h3 := Kd.R_lt HM.out.2.2.1 gc rfl; have h4 := Kd.R_lt HM.out.2.2.2 gs rfl; omega)); (case aO => exact HO.out); (case aS => exact HB.out.size); (case aL => have := LM.out; omega); intro v27 W5 ho hb hg hat; replace HM := am_ (HM.out.step (fun k_ hk_ hl_ => hg.block k_ hl_ (fun e_ => by have := HO.out.1 k_ e_.symm; omega))); replace HO := am_ ho; replace HB := am_ hb; clear ho hb hg hat cz0) | (go_at_call 83; refine (impl_run.step_calls w _ g gr gc gs cr cc cs a R C S A0 c0 l0 A1 c1 l1 _ HM.out HAP.out HGE.out HB.out HR0.out HR1.out HC6.out.2.2.2 HC6.out.1 HC6.out.2.1 rfl HC6.out.2.2.1 f1 f2 a' R' C' S' A7.out).mono ?_; rintro e W6 ⟨rfl, hm, hb, hk⟩; have n0_ := am_ (Kd.R_kept HO.out hk (fun k_ h1_ h2_ => by omega)); have n1_ := am_ hm; have n2_ := am_ hb; clear HM HO HB hm hb hk; have HM := n1_; have HO := n0_; have HB := n2_; clear n0_ n1_ n2_))
      have H := HH.out
      clear HH
      by_cases c8 : f1 = 0
      ·rw [if_pos c8] at H
       have c8b : (f1 != 0) = false := bne_eq_false_iff_eq.mpr c8
       clear c8
       by_cases c9 : f2 = true
       ·rw [if_pos c9] at H
        subst c9
        simp only [Option.some.injEq, Prod.mk.injEq] at H
        obtain ⟨rfl, rfl, rfl, rfl⟩ := H
        have cz1 := cq_ HM.out.1 1 (.slice (some ⟨gr, 0, none⟩) 6 cr)
        have y0 : W6.cell? ⟨gr, 0, none⟩ = some (.int .i64 (rd R' 0)) := (Kd.R_celln 0 HM.out.2.1 0 (by decide) (by decide)).1
        go_wp2
        ((try simp only [Exit.inBlock, Exit.then]); refine bodyPost_ret (impl_run.results4 rfl _ _ _) rfl ?_)
        exact ⟨_, rfl, Kd.R_mono HO.out (fun _ _ => trivial), HB.out⟩
       ·rw [if_neg c9] at H
        replace c9 := Bool.eq_false_iff.mpr c9
        subst c9
        have H' := am_ H
        clear H
        go_wp2
        go_roundg k1
        case measure => have := HK1.out; omega
        case rel => exact ⟨_, _, _, _, _, H', ⟨by have := HK1.out; omega⟩, HM, HO, HB⟩
      ·rw [if_neg c8] at H
       have c8b : (f1 != 0) = true := bne_iff_ne.mpr c8
       clear c8
       simp only [Option.some.injEq, Prod.mk.injEq] at H
       obtain ⟨rfl, rfl, rfl, rfl⟩ := H
       go_wp2
       ((try simp only [Exit.inBlock, Exit.then]); refine bodyPost_ret (impl_run.results4 rfl _ _ _) rfl ?_)
       exact ⟨_, rfl, Kd.R_mono HO.out (fun _ _ => trivial), HB.out⟩
     ·rw [if_neg c6] at H; cases H
    ·rw [if_neg c5] at H; cases H
end Go.Proofs.Ytcmhkgpalfljbaa.PPA
