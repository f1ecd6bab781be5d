import Derived.Test.YtgahidilhjijiaaShort
namespace Go.Proofs.YtgahidilhjijiaaW.PrintWords
open Go Go.RowKit Go.Proofs.YtgahidilhjijiaaW.PrintLast
set_option linter.unusedVariables false
structure Gof (g : Nat) (w W : World) : Prop where
  size : w.heap.size ≤ W.heap.size
  block : ∀ k, k < w.heap.size → k ≠ g → W.heap[k]? = w.heap[k]?
theorem Gof.refl (g : Nat) (w : World) : Gof g w w := ⟨Nat.le_refl _, fun _ _ _ => rfl⟩
theorem Gof.drewN {g : Nat} {w W : World} (h : Gof g w W) (n : Nat) : Gof g w (W.drewN n) := ⟨h.size, h.block⟩
theorem Gof.drew {g : Nat} {w W : World} (h : Gof g w W) : Gof g w W.drew := ⟨h.size, h.block⟩
theorem Gof.alloc {g : Nat} {w W : World} (h : Gof g w W) (o : Obj) : Gof g w (W.alloc o) := by
  have hb := below_alloc (Below.refl W.heap.size W) o
  exact ⟨Nat.le_trans h.size hb.size, fun k hk hn => (hb.block k (Nat.lt_of_lt_of_le hk h.size)).trans (h.block k hk hn)⟩
theorem Gof.put {g : Nat} {w W : World} (h : Gof g w W) (i : Nat) (r : Option Nat) (u : Value) : Gof g w (W.setCell ⟨g, i, r⟩ u) :=
  ⟨by simpa [World.setCell] using h.size, fun k hk hn => (Below.heap_setCell W ⟨g, i, r⟩ u k hn).trans (h.block k hk hn)⟩
theorem sq_ {α : Type} {d : Kd α} {e base : Nat} {ok : Nat → Prop} {v : Value} {xs : List α} {w W : World} (h : Kd.S d e w base ok v xs) (k : Grw w W := by (with_reducible repeat (first | exact Grw.refl _ | apply Grw.alloc | apply Grw.drewN | apply Grw.drew))) : Kd.S d e W base ok v xs :=
  Kd.S_step h (fun i _ hi => k.block i hi)
theorem cm_ {α : Type} {d : Kd α} {A : Option Addr} {n : Nat} {xs : List α} {w W : World} (h : d.C w A n xs) (k : Below w.heap.size w W := by (with_reducible repeat (first | exact Below.refl _ _ | apply below_alloc | apply pw_below_drewN | apply below_drew1))) : d.C W A n xs :=
  Kd.C_below h k
structure Gpt (g : Nat) (cs cs' : Array Value) (w W : World) : Prop where
  size : w.heap.size ≤ W.heap.size
  block : ∀ t, w.heap[g]? = some (.cells cs t (0, 0)) → W.heap[g]? = some (.cells cs' t (0, 0))
theorem Gpt.refl (g : Nat) (cs : Array Value) (w : World) : Gpt g cs cs w w := ⟨Nat.le_refl _, fun _ h => h⟩
section
variable {g : Nat} {cs cs' : Array Value} {w W : World}
theorem Gpt.drewN (h : Gpt g cs cs' w W) (n : Nat) : Gpt g cs cs' w (W.drewN n) := ⟨h.size, h.block⟩
theorem Gpt.drew (h : Gpt g cs cs' w W) : Gpt g cs cs' w W.drew := ⟨h.size, h.block⟩
theorem Gpt.alloc (h : Gpt g cs cs' w W) (o : Obj) : Gpt g cs cs' w (W.alloc o) := by
  have hb := below_alloc (Below.refl W.heap.size W) o
  exact ⟨Nat.le_trans h.size hb.size, fun t k => blk_alloc (h.block t k) o⟩
theorem Gpt.put (h : Gpt g cs cs' w W) (i : Nat) (u : Value) : Gpt g cs (cs'.setIfInBounds i u) w (W.setCell ⟨g, i, none⟩ u) :=
  ⟨by simpa [World.setCell] using h.size, fun t k => blk_put (h.block t k) i u rfl⟩
theorem Gpt.far {b i : Nat} {r : Option Nat} (h : Gpt g cs cs' w W) (n : g ≠ b) (u : Value) : Gpt g cs cs' w (W.setCell ⟨b, i, r⟩ u) :=
  ⟨by simpa [World.setCell] using h.size, fun t k => blk_far (h.block t k) n u⟩
end
theorem bu_ {g t : Nat} {cs c1 cs' : Array Value} {w W : World} (h : w.heap[g]? = some (.cells cs t (0, 0))) (k : Gpt g cs c1 w W := by (with_reducible repeat (first | exact Gpt.refl _ _ _ | apply Gpt.alloc | apply Gpt.drewN | apply Gpt.drew | apply Gpt.put | (apply Gpt.far; case n => exact Aside0.out (by assumption))))) (e : c1 = cs' := by rfl) : W.heap[g]? = some (.cells cs' t (0, 0)) :=
  e ▸ k.block t h
theorem bb_ {w W w1 : World} {g : Nat} {o : Obj} (h : Aside0 (w.heap[g]? = some o)) (hb : Below W.heap.size W w1) (k : Grw w W := by (with_reducible repeat (first | exact Grw.refl _ | apply Grw.alloc | apply Grw.drewN | apply Grw.drew))) : Aside0 (w1.heap[g]? = some o) :=
  ⟨blk_below (bk_ h.out k) hb⟩
theorem bs_ {w W w2 : World} (k : Below W.heap.size W w2) (h : Below w.heap.size w W := by repeat (first | (with_reducible first | exact HB.out | apply below_alloc | apply pw_below_drewN | apply below_drew1 | refine below_set ?_ (Aside0.out (by assumption))) | exact HB.out)) : Aside0 (Below w.heap.size w w2) := ⟨below_step h k⟩
theorem gz_ {w W : World} {g : Nat} (e : g = W.heap.size) (h : Below w.heap.size w W := by repeat (first | (with_reducible first | exact HB.out | apply below_alloc | apply pw_below_drewN | apply below_drew1 | refine below_set ?_ (Aside0.out (by assumption))) | exact HB.out)) : Aside0 (w.heap.size ≤ g) := ⟨e ▸ below_size h⟩
theorem am_ {p : Prop} (h : p) : Aside0 p := ⟨h⟩
theorem od_ {p : Prop} [Decidable p] (h : decide p = true := by first | (with_reducible assumption) | assumption) : p := of_decide_eq_true h
section
variable {P : Program} {ops : Array Oper} {o : Oper} {rest : List Oper} {a : Act} {W : World} {Q : Exit → Act → World → Prop}
theorem gl_ (f : FuncId) {as : Array Operand} {ts : Array TypeId} (_ho : o.op = .call { callee := .value (.func f), args := as, argTypes := ts }) (h : wpList P ops Q (o :: rest) a W) : wpList P ops Q (o :: rest) a W := h
theorem goesM_ (N : Option Tmp) {f : FuncId} {fn : Func} {as : Array Operand} {ts : Array TypeId} (hf : P.funcs[f]? = some fn) (args : Array Value)
    (h : Calls P f args W fun e w' => ∃ v, e = .returned v ∧ wpList P ops Q rest (a.put N v) w')
    (hd : o.dst = N := by rfl) (hg : o.guard = none := by rfl) (hname : (fn.name == "runtime.NumGoroutine") = false := by kernel_rfl) (hb : fn.body.isSome = true := by rfl)
    (hop : o.op = .call { callee := .value (.func f), args := as, argTypes := ts } := by rfl) (hargs : as.map a.eval = args := by (try simp only [List.map_toArray, List.map_cons, List.map_nil]); first | done | rfl | (simp only [List.length_drop, List.length_take]; rfl)) : wpList P ops Q (o :: rest) a W :=
  goesL_ N hd hg hf hname hb args hop hargs h
end
theorem y0_ {p : Prop} (h : p := by rw [hw]; exact (by (with_reducible repeat (first | apply Kd.V_alloc | apply Kd.V_drewN | apply Kd.V_drew)); exact Kd.V_mono (Kd.V_far (p := ⟨gb363, 2, none⟩) (Kd.V_far (p := ⟨gb363, 1, none⟩) (Kd.V_far (p := ⟨gb363, 0, none⟩) (Kd.V_mono HO_1.out (fun k_ hk => (⟨hk, hk.2⟩ : _ ∧ k_ ≠ gb363))) (fun _ hk => hk.2) (.int .i64 ((rd_T69 l0 x11_1).f0))) (fun _ hk => hk.2) (.int .i64 ((rd_T69 l0 x11_1).f1))) (fun _ hk => hk.2) (.int .i64 ((rd_T69 l0 x11_1).f2))) (fun _ hk => ⟨hk.1.1.1, ⟨hk.1.1.2, hk.1.2⟩⟩))) : p := h
theorem y2_ {p : Prop} (h : p := by (with_reducible repeat (first | apply Kd.V_alloc | apply Kd.V_drewN | apply Kd.V_drew)); exact Kd.V_mono (Kd.V_far (p := ⟨gb363, 2, none⟩) (Kd.V_far (p := ⟨gb363, 1, none⟩) (Kd.V_far (p := ⟨gb363, 0, none⟩) (Kd.V_mono HO_1.out (fun k_ hk => (⟨hk, hk.2⟩ : _ ∧ k_ ≠ gb363))) (fun _ hk => hk.2) (.int .i64 ((rd_T69 l0 x11_1).f0))) (fun _ hk => hk.2) (.int .i64 ((rd_T69 l0 x11_1).f1))) (fun _ hk => hk.2) (.int .i64 ((rd_T69 l0 x11_1).f2))) (fun _ hk => ⟨⟨hk.1.1.1, hk.1.2⟩, hk.1.1.2⟩)) : p := h
theorem y3_ {p : Prop} (h : p := by rw [hw]; exact (rq_ (Kd.R_mono (Kd.R_far (p := ⟨gb363, 2, none⟩) (Kd.R_far (p := ⟨gb363, 1, none⟩) (Kd.R_far (p := ⟨gb363, 0, none⟩) (Kd.R_types HO_5.out BK363.out (by decide)) (fun _ hk => hk.2) (.int .i64 ((rd_T69 l0 x11_1).f0))) (fun _ hk => hk.2) (.int .i64 ((rd_T69 l0 x11_1).f1))) (fun _ hk => hk.2) (.int .i64 ((rd_T69 l0 x11_1).f2))) (fun _ hk => hk.1)))) : p := h
theorem y4_ {p : Prop} (h : p := by rw [hg]; exact (keep_size (w := w) (g := g) (row := none) (by repeat (first | (with_reducible first | exact HK.out | apply KeepBut.set_ | apply keep_drewN | apply keep_drew | apply keep_alloc) | exact HK.out)))) : p := h
theorem y5_ {p : Prop} (h : p := by repeat (first | (with_reducible exact HR167_0.out) | (with_reducible refine Kd.C_alloc ?_ _) | (with_reducible refine Kd.C_drewN ?_ _) | (with_reducible refine Kd.C_drew ?_) | exact HR167_0.out)) : p := h
theorem y6_ {p : Prop} (h : p := by repeat (first | (with_reducible exact HR245_0.out) | (with_reducible refine Kd.C_alloc ?_ _) | (with_reducible refine Kd.C_drewN ?_ _) | (with_reducible refine Kd.C_drew ?_) | exact HR245_0.out)) : p := h
theorem y7_ {p : Prop} (h : p := by repeat (first | (with_reducible first | exact HK.out | apply KeepBut.set_ | apply keep_drewN | apply keep_drew | apply keep_alloc | refine keep_far ?_ GW299.out _) | exact HK.out)) : p := h
theorem y8_ {p : Prop} (h : p := by repeat (first | (with_reducible first | exact HB.out | apply below_alloc | apply pw_below_drewN | apply below_drew1 | refine below_set ?_ (IsS80.ge HI506.out)) | exact HB.out)) : p := h
theorem y9_ {p : Prop} (h : p := by repeat (first | (with_reducible first | exact HB.out | apply below_alloc | apply pw_below_drewN | apply below_drew1 | refine below_set ?_ (IsS80.ge HI338.out)) | exact HB.out)) : p := h
theorem y10_ {p : Prop} (h : p := by repeat (first | (with_reducible first | exact HB.out | apply below_alloc | apply pw_below_drewN | apply below_drew1 | refine below_set ?_ (IsS80.ge HI0.out)) | exact HB.out)) : p := h
theorem y11_ {p : Prop} (h : p := by repeat (first | (with_reducible first | exact HI0.out | apply IsS80.alloc | apply IsS80.drewN | apply IsS80.drew | apply IsS80.set_1 | apply IsS80.set_2) | exact HI0.out)) : p := h
theorem y12_ {p : Prop} (h : p := by (with_reducible repeat (first | apply Kd.V_alloc | apply Kd.V_drewN | apply Kd.V_drew)); exact Kd.V_mono HL245_0.out (fun _ hk => ⟨⟨hk.1.1.1, ⟨hk.1.2, hk.2⟩⟩, hk.1.1.2⟩)) : p := h
theorem y13_ {p : Prop} (h : p := by (with_reducible repeat (first | apply Kd.N_alloc | apply Kd.N_drewN | apply Kd.N_drew)); exact Kd.N_mono HO_102.out (fun _ hk => ⟨⟨hk.1.1, hk.2⟩, hk.1.2⟩)) : p := h
theorem y14_ {p : Prop} (h : p := by (with_reducible repeat (first | apply Kd.V_alloc | apply Kd.V_drewN | apply Kd.V_drew)); exact Kd.V_mono HO369.out (fun _ hk => ⟨⟨hk.1, hk.2.2⟩, hk.2.1⟩)) : p := h
theorem y15_ {p : Prop} (h : p := by (with_reducible repeat (first | apply Kd.V_alloc | apply Kd.V_drewN | apply Kd.V_drew)); exact Kd.V_mono HO_1.out (fun _ hk => ⟨⟨hk.1, hk.2.2⟩, hk.2.1⟩)) : p := h
theorem y16_ {p : Prop} (h : p := by repeat (first | (with_reducible first | exact HK.out | apply KeepBut.set_ | apply keep_drewN | apply keep_drew | apply keep_alloc) | exact HK.out)) : p := h
theorem y17_ {p : Prop} (h : p := by (with_reducible repeat (first | apply Kd.N_alloc | apply Kd.N_drewN | apply Kd.N_drew)); exact Kd.N_mono HO_9.out (fun _ hk => ⟨hk.1.1, hk.1.2⟩)) : p := h
theorem y18_ {p : Prop} (h : p := by first | (rw [add_block]; exact hn373_0) | (show (Addr.add _ _).block ≠ _; rw [add_block]; exact hn373_0) | exact hn373_0) : p := h
theorem y19_ {p : Prop} (h : p := by first | (rw [add_block]; exact hn373_1) | (show (Addr.add _ _).block ≠ _; rw [add_block]; exact hn373_1) | exact hn373_1) : p := h
theorem y20_ {p : Prop} (h : p := by first | (rw [add_block]; exact hn373_2) | (show (Addr.add _ _).block ≠ _; rw [add_block]; exact hn373_2) | exact hn373_2) : p := h
theorem y21_ {p : Prop} (h : p := by first | (rw [add_block]; exact hn377_0) | (show (Addr.add _ _).block ≠ _; rw [add_block]; exact hn377_0) | exact hn377_0) : p := h
theorem y22_ {p : Prop} (h : p := by first | (rw [add_block]; exact hn377_1) | (show (Addr.add _ _).block ≠ _; rw [add_block]; exact hn377_1) | exact hn377_1) : p := h
theorem y23_ {p : Prop} (h : p := by first | (rw [add_block]; exact hn377_2) | (show (Addr.add _ _).block ≠ _; rw [add_block]; exact hn377_2) | exact hn377_2) : p := h
theorem y24_ {p : Prop} (h : p := by first | (rw [add_block]; exact hn378_0) | (show (Addr.add _ _).block ≠ _; rw [add_block]; exact hn378_0) | exact hn378_0) : p := h
theorem y25_ {p : Prop} (h : p := by first | (rw [add_block]; exact hn378_1) | (show (Addr.add _ _).block ≠ _; rw [add_block]; exact hn378_1) | exact hn378_1) : p := h
theorem y26_ {p : Prop} (h : p := by first | (rw [add_block]; exact hn378_2) | (show (Addr.add _ _).block ≠ _; rw [add_block]; exact hn378_2) | exact hn378_2) : p := h
theorem y27_ {p : Prop} (h : p := by first | (rw [add_block]; exact hn385_0) | (show (Addr.add _ _).block ≠ _; rw [add_block]; exact hn385_0) | exact hn385_0) : p := h
theorem y28_ {p : Prop} (h : p := by first | (rw [add_block]; exact hn385_1) | (show (Addr.add _ _).block ≠ _; rw [add_block]; exact hn385_1) | exact hn385_1) : p := h
theorem y29_ {p : Prop} (h : p := by first | (rw [add_block]; exact hn385_2) | (show (Addr.add _ _).block ≠ _; rw [add_block]; exact hn385_2) | exact hn385_2) : p := h
theorem y30_ {p : Prop} (h : p := by first | (rw [add_block]; exact hn389_0) | (show (Addr.add _ _).block ≠ _; rw [add_block]; exact hn389_0) | exact hn389_0) : p := h
theorem y31_ {p : Prop} (h : p := by first | (rw [add_block]; exact hn389_1) | (show (Addr.add _ _).block ≠ _; rw [add_block]; exact hn389_1) | exact hn389_1) : p := h
theorem y32_ {p : Prop} (h : p := by first | (rw [add_block]; exact hn389_2) | (show (Addr.add _ _).block ≠ _; rw [add_block]; exact hn389_2) | exact hn389_2) : p := h
theorem y33_ {p : Prop} (h : p := by first | (rw [add_block]; exact hn393_0) | (show (Addr.add _ _).block ≠ _; rw [add_block]; exact hn393_0) | exact hn393_0) : p := h
theorem y34_ {p : Prop} (h : p := by first | (rw [add_block]; exact hn393_1) | (show (Addr.add _ _).block ≠ _; rw [add_block]; exact hn393_1) | exact hn393_1) : p := h
theorem y35_ {p : Prop} (h : p := by first | (rw [add_block]; exact hn393_2) | (show (Addr.add _ _).block ≠ _; rw [add_block]; exact hn393_2) | exact hn393_2) : p := h
theorem y36_ {p : Prop} (h : p := by first | (rw [add_block]; exact hn394_0) | (show (Addr.add _ _).block ≠ _; rw [add_block]; exact hn394_0) | exact hn394_0) : p := h
theorem y37_ {p : Prop} (h : p := by first | (rw [add_block]; exact hn394_1) | (show (Addr.add _ _).block ≠ _; rw [add_block]; exact hn394_1) | exact hn394_1) : p := h
theorem y38_ {p : Prop} (h : p := by first | (rw [add_block]; exact hn394_2) | (show (Addr.add _ _).block ≠ _; rw [add_block]; exact hn394_2) | exact hn394_2) : p := h
theorem y39_ {p : Prop} (h : p := by (with_reducible repeat (first | apply Kd.V_alloc | apply Kd.V_drewN | apply Kd.V_drew)); exact HL245_0.out) : p := h
theorem y40_ {p : Prop} (h : p := by (with_reducible repeat (first | apply Kd.N_alloc | apply Kd.N_drewN | apply Kd.N_drew)); exact HO_102.out) : p := h
theorem y41_ {p : Prop} (h : p := by (with_reducible repeat (first | apply Kd.N_alloc | apply Kd.N_drewN | apply Kd.N_drew)); exact HO_11.out) : p := h
theorem y42_ {p : Prop} (h : p := by (with_reducible repeat (first | apply Kd.N_alloc | apply Kd.N_drewN | apply Kd.N_drew)); exact HO586.out) : p := h
theorem y43_ {p : Prop} (h : p := by (with_reducible repeat (first | apply Kd.N_alloc | apply Kd.N_drewN | apply Kd.N_drew)); exact HO607.out) : p := h
theorem y44_ {p : Prop} (h : p := by (with_reducible repeat (first | apply Kd.N_alloc | apply Kd.N_drewN | apply Kd.N_drew)); exact HO611.out) : p := h
theorem y45_ {p : Prop} (h : p := by (with_reducible repeat (first | apply Kd.N_alloc | apply Kd.N_drewN | apply Kd.N_drew)); exact HO_13.out) : p := h
theorem y46_ {p : Prop} (h : p := by (with_reducible repeat (first | apply Kd.N_alloc | apply Kd.N_drewN | apply Kd.N_drew)); exact HO_9.out) : p := h
theorem y47_ {p : Prop} (h : p := by (with_reducible repeat (first | apply Kd.N_alloc | apply Kd.N_drewN | apply Kd.N_drew)); exact HO_4.out) : p := h
theorem y48_ {p : Prop} (h : p := by (with_reducible repeat (first | apply Kd.V_alloc | apply Kd.V_drewN | apply Kd.V_drew)); exact HO_1.out) : p := h
theorem y49_ {p : Prop} (h : p := by (with_reducible repeat (first | apply Kd.N_alloc | apply Kd.N_drewN | apply Kd.N_drew)); exact HO.out) : p := h
theorem y50_ {p : Prop} (h : p := by have := World.block_lt_of_cell? _ _ hx410_0; first | rwa [add_block] at this | exact this) : p := h
theorem y51_ {p : Prop} (h : p := by repeat (first | exact Drawn0.refl _ | apply Drawn0.step)) : p := h
theorem y52_ {p : Prop} (h : p := by rw [hy15, hc15]; exact Nat.sub_le_sub_right hroom15 _) : p := h
theorem y53_ {p : Prop} (h : p := by first | rfl | (simp; done) | (simp [*]; done)) : p := h
theorem y54_ {p : Prop} (h : p := by first | (go_simp; done) | (go_simp; rfl)) : p := h
theorem y55_ {p : Prop} (h : p := by rw [hr_.out] at H; exact H) : p := h
end Go.Proofs.YtgahidilhjijiaaW.PrintWords
