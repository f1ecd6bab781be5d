-- Made by myprint.py (this session's program, over the kit's print) for this claim. Lean checks it.
import Derived.Test.YtpndhlcbfobelaaPSFx0
import Derived.Test.YtpndhlcbfobelaaPSFx7
import Derived.Test.YtpndhlcbfobelaaPSFx8
import Derived.Test.YtpndhlcbfobelaaPSFx9
namespace Go.Proofs.Ytpndhlcbfobelaa.PSF
open Go.RowKit Go.Proofs.YtpndhlcbfobelaaW.PrintWords Go.Proofs.YtpndhlcbfobelaaW.PrintLast Go.Proofs.YtpndhlcbfobelaaW.PrintMore
attribute [local go_sem] max2_int min2_int max_two min_two max_three min_three max_four min_four   -- for this text's walks alone
set_option linter.unusedVariables false
set_option linter.unusedSimpArgs false

-- NOT PRINTED: function 63 (impl_mapped)

/-! ### impl_FixVar: function 32 -/
/-- The closure's reading. -/
def impl_FixVar.pr (k : Nat) (a0 : Int) (l0 : List S75) (a2 : Int) (so : Bool) (bit : Int) (i : Int) : Option Bool := if so = true then impl_Diagram_value.f k a0 l0 a2 (Go.bits .or .i64 i bit) else impl_Diagram_value.f k a0 l0 a2 (Go.bits .andNot .i64 i bit)
theorem impl_FixVar.pr_mono (k : Nat) (a0 : Int) (l0 : List S75) (a2 : Int) (so : Bool) (bit : Int) (i : Int) : LeO (impl_FixVar.pr k a0 l0 a2 so bit i) (impl_FixVar.pr (k + 1) a0 l0 a2 so bit i) := by
  unfold impl_FixVar.pr
  exact LeO.ite (impl_Diagram_value.mono _ _ _ _ _) (impl_Diagram_value.mono _ _ _ _ _)
set_option maxHeartbeats 4000000 in
set_option maxRecDepth 100000 in
theorem impl_FixVar.pr_calls (k B0 B1 B2 : Nat) (A0 : Option Addr) (c0 : Nat) (a0 : Int) (l0 : List S75) (a2 : Int) (so : Bool) (bit : Int) (x : Int) (v : Bool) (w : World) (hB0 : w.heap[B0]? = some (.cells #[.bool so] 4 (0, 0))) (hB1 : w.heap[B1]? = some (.cells #[.int .i64 a0, .slice A0 l0.length c0, .int .i64 a2] 30 (0, 0))) (hB2 : w.heap[B2]? = some (.cells #[.int .i64 bit] 3 (0, 0))) (hr : Kd.C k75 w A0 l0.length l0) (hc : l0.length ≤ c0) (h : impl_FixVar.pr k a0 l0 a2 so bit x = some v) :
    Calls Try.prog 69 #[.int .i64 x, .pointer (some ⟨B0, 0, none⟩), .pointer (some ⟨B1, 0, none⟩), .pointer (some ⟨B2, 0, none⟩)] w fun e w' => e = .returned (.bool v) ∧ Below w.heap.size w w' := by
  have hu30 := Try.underlying30
  have HR := Aside0.mk hr
  have HC := Aside0.mk hc
  have HB := Aside0.mk (Below.refl w.heap.size w)
  unfold impl_FixVar.pr at h
  clear hr hc
  have hcz0 : w.cell? ⟨B1, 0, none⟩ = some (.int .i64 a0) := (blk_cell hB1 0).trans rfl
  have hcz1 : w.cell? ⟨B1, 1, none⟩ = some (.slice A0 l0.length c0) := (blk_cell hB1 1).trans rfl
  have hcz2 : w.cell? ⟨B1, 2, none⟩ = some (.int .i64 a2) := (blk_cell hB1 2).trans rfl
  have hcs : w.cell? ⟨B0, 0, none⟩ = some (.bool so) := (blk_cell hB0 0).trans rfl
  have hct : w.cell? ⟨B2, 0, none⟩ = some (.int .i64 bit) := (blk_cell hB2 0).trans rfl
  clear hB0 hB1 hB2
  by_cases c8 : so = true
  · subst c8
    rw [if_pos rfl] at h
    have A1_ := Aside0.mk h
    clear h
    go_enter Try.func69, Try.ntmps69
    go_wp2_with (have t_ := A1_; go_at_call 59; refine (impl_Diagram_value.calls k a0 _ _ l0 a2 (Go.bits .or .i64 x bit) v _ (by (with_reducible repeat (first | apply Kd.C_alloc | apply Kd.C_drewN | apply Kd.C_drew)); first | exact HR.out | exact Kd.C_below HR.out HB.out) HC.out A1_.out).mono ?_; rintro e w3 ⟨rfl, hb⟩; have n0_ := Aside0.mk (below_step (bq_) hb); clear HB A1_ t_; have HB := n0_; clear n0_ hb)
    go_ret
    exact ⟨by first | rfl | (simp; done) | (simp [*]; done), bq_⟩
  · replace c8 := Bool.eq_false_iff.mpr c8
    subst c8
    rw [if_neg (by simp)] at h
    have A1_ := Aside0.mk h
    clear h
    go_enter Try.func69, Try.ntmps69
    go_wp2_with (have t_ := A1_; go_at_call 59; refine (impl_Diagram_value.calls k a0 _ _ l0 a2 (Go.bits .andNot .i64 x bit) v _ (by (with_reducible repeat (first | apply Kd.C_alloc | apply Kd.C_drewN | apply Kd.C_drew)); first | exact HR.out | exact Kd.C_below HR.out HB.out) HC.out A1_.out).mono ?_; rintro e w3 ⟨rfl, hb⟩; have n0_ := Aside0.mk (below_step (bq_) hb); clear HB A1_ t_; have HB := n0_; clear n0_ hb)
    go_ret
    exact ⟨by first | rfl | (simp; done) | (simp [*]; done), bq_⟩
def impl_FixVar.ml : Nat → (Int → Option Bool) → Int → List Bool → Int → Option (List Bool)
  | 0, _, _, _, _ => none
  | k + 1, p, N, out, i => if i < N then ((p i).bind fun t => (if out.length < 17592186044416 then impl_FixVar.ml k p N (out ++ [t]) (wrap64 (i + 1)) else none)) else some out
theorem impl_FixVar.ml_mono : ∀ k p p' N o i, (∀ i, LeO (p i) (p' i)) → LeO (impl_FixVar.ml k p N o i) (impl_FixVar.ml (k + 1) p' N o i)
  | 0 => fun _ _ _ _ _ _ r h => by simp [impl_FixVar.ml] at h
  | k + 1 => by
    have ih0 := impl_FixVar.ml_mono k
    intro p p' N o i hp
    unfold impl_FixVar.ml
    exact LeO.ite (LeO.bind (hp _) (fun _ => LeO.ite (ih0 _ _ _ _ _ hp) (LeO.none _))) (LeO.refl _)
def impl_FixVar.mapf (k : Nat) (p : Int → Option Bool) (vars : Int) : Option (Int × List S75 × Int) := if 0 ≤ vars then ((impl_FixVar.ml k p (shl .i64 1 vars) [] 0).bind fun t => impl_diagram.f k vars t) else none
theorem impl_FixVar.mapf_mono (k : Nat) (p p' : Int → Option Bool) (vars : Int) (hp : ∀ i, LeO (p i) (p' i)) : LeO (impl_FixVar.mapf k p vars) (impl_FixVar.mapf (k + 1) p' vars) := by
  unfold impl_FixVar.mapf
  exact LeO.ite (LeO.bind (impl_FixVar.ml_mono _ _ _ _ _ _ hp) (fun _ => impl_diagram.mono _ _ _)) (LeO.none _)
set_option maxHeartbeats 8000000 in
set_option maxRecDepth 100000 in
theorem impl_FixVar.map_calls (k : Nat) (B0 B1 B2 : Nat) (p : Int → Option Bool) (vars : Int) (r1 : Int) (r2 : List S75) (r3 : Int) (w : World)
    (hp : ∀ (W : World) (x : Int) (v : Bool), Below w.heap.size w W → p x = some v → Calls Try.prog 69 #[.int .i64 x, .pointer (some ⟨B0, 0, none⟩), .pointer (some ⟨B1, 0, none⟩), .pointer (some ⟨B2, 0, none⟩)] W fun e w' => e = .returned (.bool v) ∧ Below W.heap.size W w')
    (h : impl_FixVar.mapf k p vars = some (r1, r2, r3)) :
    Calls Try.prog 63 #[.int .i64 vars, .func (.func 69) #[] #[.pointer (some ⟨B0, 0, none⟩), .pointer (some ⟨B1, 0, none⟩), .pointer (some ⟨B2, 0, none⟩)]] w fun e w' => ∃ v1_ : Value, e = .returned (.agg #[.int .i64 r1, v1_, .int .i64 r3]) ∧ Kd.R k75 75 w' w.heap.size (fun _ => True) v1_ r2 ∧ Below w.heap.size w w' := by
  have hu30 := Try.underlying30
  have HP := Aside0.mk hp
  clear hp
  have HB := Aside0.mk (Below.refl w.heap.size w)
  unfold impl_FixVar.mapf at h
  by_cases c0 : 0 ≤ vars
  · rw [if_pos c0] at h
    have c0b := eq_true c0
    have c0d : decide (0 ≤ vars) = true := decide_eq_true c0
    clear c0
    obtain ⟨ji, hji⟩ : ∃ j_ : Int, (shl .i64 1 vars) = j_ := ⟨_, rfl⟩
    have hji_ : (IntKind.i64.wrap (1 * 2 ^ min vars.toNat 64)) = ji := hji
    have hjiz : vars ≤ 64 → (IntKind.i64.wrap (1 * 2 ^ vars.toNat)) = ji := shl_small hji
    have hjiu : (IntKind.i64.wrap (2 ^ min vars.toNat 64)) = ji := by have h_ := hji_; rw [Int.one_mul] at h_; exact h_
    have hjiv : vars ≤ 64 → (IntKind.i64.wrap (2 ^ vars.toNat)) = ji := fun hle_ => by have h_ := hjiz hle_; rw [Int.one_mul] at h_; exact h_
    have hjiy : (wrap64 (1 * 2 ^ min vars.toNat 64)) = ji := (i64_w _).symm.trans hji_
    have hjix : vars ≤ 64 → (wrap64 (1 * 2 ^ vars.toNat)) = ji := fun h_ => (i64_w _).symm.trans (hjiz h_)
    rw [hji] at h
    obtain ⟨tt, A10, h1⟩ := Option.bind_eq_some_iff.mp h
    have A1 := Aside0.mk A10
    have A2 := Aside0.mk h1
    clear A10 h h1
    have eg := fun args w => enters_ (P := Try.prog) Try.func69 (by kernel_rfl) rfl args w
    go_enter Try.func63, Try.ntmps63
    go_wp2_with ((with_reducible refine gate_dst (N := 4) rfl ?_); refine boxq_ (N := 4) (cs := #[.int .i64 0, .slice none 0 0, .int .i64 0]) (t := 30) ?_; intro g4 hg w3 hbox hb; have n0_ := Aside0.mk (below_step (bq_) hb); have GE4 := Aside0.mk ((by rw [hg]; exact (below_size (bq_))) : w.heap.size ≤ g4); clear HB; have HB := n0_; have BK4 := Aside0.mk hbox; clear n0_ hb hbox hg)
    go_loopg [5, 9] k (fun kq v5 v9 w' => ∃ (o : List Bool) (x : Int), v9 = .int .i64 x ∧ Aside0 (impl_FixVar.ml kq p ji o x = some tt) ∧ Aside0 (kq ≤ k) ∧ Aside0 (Kd.R Kd.bool 4 w' w.heap.size (fun _ => True) v5 o) ∧ Aside0 (w'.heap[g4]? = some (.cells #[.int .i64 0, .slice none 0 0, .int .i64 0] 30 (0, 0))) ∧ Aside0 (Below w.heap.size w w'))
    case atStart => exact ⟨[], (0), (by first | rfl | (simp; done) | (simp [*]; done)), A1, ⟨Nat.le_refl _⟩, ⟨Kd.R_nil _ _ _ _ _⟩, ⟨BK4.out⟩, ⟨bq_⟩⟩
    case round =>
      clear A1 HB BK4
      obtain ⟨o, x, rfl, HA, HK1, HO, BK4, HB⟩ := hrel
      cases gk with
      | zero => exact absurd HA.out (by simp [impl_FixVar.ml])
      | succ k1 =>
        have H := HA.out
        clear HA
        simp only [impl_FixVar.ml] at H
        by_cases c4 : x < ji
        · rw [if_pos c4] at H
          have c4b0 : decide (x < ji) = true := decide_eq_true c4
          clear c4
          obtain ⟨t, A70, H⟩ := Option.bind_eq_some_iff.mp H
          have A7 := Aside0.mk A70
          clear A70
          by_cases c12 : o.length < 17592186044416
          · rw [if_pos c12] at H
            have LMc12 := Aside0.mk c12
            clear c12
            have H' := Aside0.mk H
            clear H
            go_wp2_with (first | (go_at_call 69; refine (HP.out _ x t (bq_) A7.out).mono ?_; rintro e w6 ⟨rfl, hb⟩; have n0_ := Aside0.mk (below_step (bq_) hb); have n1_ := Aside0.mk (Kd.R_below (rq_ HO.out) hb); have n2_ := Aside0.mk (blk_below (bk_ BK4.out) hb); clear HB HO BK4; have HB := n0_; have HO := n1_; have BK4 := n2_; clear n0_ n1_ n2_ hb) | ((with_reducible refine gate_builtin (b := .append) (xs := #[.tmp 12, .tmp 16]) rfl ?_); at_builtin; refine Kd.R_append Kd.bool (w0 := w) w.heap.size rfl (.tmp 12) (.tmp 16) 34 4 (.bool false) 1 rfl Try.underlying34 info4 rfl (by decide) (by omega) u5 o t [.bool t] (fun _ => True) (fun _ => False) rfl rfl ?aP (fun _ hk => hk.elim) ?aF ?aO ?aB ?aS ?aL ?_; (case aP => exact rfl); (case aB => exact (bq_)); (case aF => exact (fun _ _ => trivial)); (case aO => exact (rq_ HO.out)); (case aS => exact (below_size (bq_))); (case aL => have := LMc12.out; omega); intro v121 w13 ho hb hg hat; have n2_ := Aside0.mk (blk_grown BK4.out hg (Kd.R_ne HO.out BK4.out (by decide))); have n0_ := Aside0.mk hb; have n1_ := Aside0.mk ho; clear HB HO BK4; have HB := n0_; have HO := n1_; have BK4 := n2_; clear n0_ n1_ n2_ ho hb hg hat))
            go_roundg k1
            case measure => have := HK1.out; omega
            case rel => exact ⟨_, (wrap64 (x + 1)), (by first | rfl | (simp; done) | (simp [*]; done)), H', ⟨by have := HK1.out; omega⟩, ⟨rq_ HO.out⟩, ⟨bk_ BK4.out⟩, ⟨bq_⟩⟩
          · rw [if_neg c12] at H
            exact absurd H (by simp)
        · rw [if_neg c4] at H
          have c4b0 : decide (x < ji) = false := decide_eq_false c4
          clear c4
          obtain rfl := Option.some.inj H
          clear H
          obtain ⟨At, ct, et⟩ := Kd.R_slice HO.out
          subst et
          go_wp2_with (go_at_call 84; refine (impl_diagram.calls k vars _ _ o r1 r2 r3 _ (by (with_reducible repeat (first | apply Kd.C_alloc | apply Kd.C_drewN | apply Kd.C_drew)); exact (Kd.R_reads' HO.out).2.2) (Kd.R_reads' HO.out).2.1 A2.out).mono ?_; rintro e w7 ⟨v1, rfl, ho, hb⟩; have NV := Aside0.mk (show v1.ownBlock ≠ some g4 from fun he => by have := Kd.R_base ho g4 he; have := blk_lt BK4.out; omega); have n0_ := Aside0.mk (blk_below BK4.out hb); have n1_ := Aside0.mk (Kd.R_lower ho (below_size (bq_))); have n2_ := Aside0.mk (below_step (bq_) hb); clear HB HO BK4; have BK4 := n0_; have HO := n1_; have HB := n2_; clear n0_ n1_ n2_ ho hb; obtain ⟨Ao, co, eo⟩ := Kd.R_slice HO.out; subst eo; have hcy0 := cq_ BK4.out 0 (.int .i64 0); have hcy1 := cq_ BK4.out 1 (.slice none 0 0); have hcy2 := cq_ BK4.out 2 (.int .i64 0); have hfy0 := blk_frozen BK4.out 0; have hfy1 := blk_frozen BK4.out 1; have hfy2 := blk_frozen BK4.out 2)
          refine bodyPost_ret (results_cell_row rfl _ _ g4 30 #[.int .i64 r1, (.slice Ao r2.length co), .int .i64 r3] (0, 0) _ rfl (blk_put (cs := #[.int .i64 r1, (.slice Ao r2.length co), .int .i64 0]) (cs' := #[.int .i64 r1, (.slice Ao r2.length co), .int .i64 r3]) (blk_put (cs := #[.int .i64 r1, .slice none 0 0, .int .i64 0]) (cs' := #[.int .i64 r1, (.slice Ao r2.length co), .int .i64 0]) (blk_put (cs := #[.int .i64 0, .slice none 0 0, .int .i64 0]) (cs' := #[.int .i64 r1, .slice none 0 0, .int .i64 0]) (BK4.out) 0 (.int .i64 r1) rfl) 1 ((.slice Ao r2.length co)) rfl) 2 (.int .i64 r3) rfl) Try.underlying30 rfl (by kernel_rfl)) rfl ?_
          exact ⟨_, by first | rfl | (simp; done) | (simp [*]; done), Kd.R_mono (Kd.R_far (p := ⟨g4, 2, none⟩) (Kd.R_far (p := ⟨g4, 1, none⟩) (Kd.R_far (p := ⟨g4, 0, none⟩) (impl_Diagram_build.flat (show Kd.R k75 75 w7 w.heap.size (fun _ => True) (.slice Ao r2.length co) r2 from HO.out) (ok' := fun k => k ≠ g4) (fun k hk _ => fun he => NV.out (by rw [hk, he]))) (fun k h => h) (.int .i64 r1)) (fun k h => h) ((.slice Ao r2.length co))) (fun k h => h) (.int .i64 r3)) (fun _ _ => trivial), below_set (j := 2) (v := (.int .i64 r3)) (below_set (j := 1) (v := ((.slice Ao r2.length co))) (below_set (j := 0) (v := (.int .i64 r1)) (HB.out) GE4.out) GE4.out) GE4.out⟩
  · rw [if_neg c0] at h
    exact absurd h (by simp)
def impl_FixVar.f (k : Nat) (a0 : Int) (l0 : List (S75)) (a2 : Int) (v : Int) (so : Bool) : Option (Int × (List (S75)) × Int × Bool) := (impl_GoodDiagram.f k a0 l0 a2).bind fun g => if g = true then ((impl_in.f v 1 a0).bind fun g' => if g' = true then (if 0 ≤ wrap64 (v - 1) then ((impl_FixVar.mapf k (impl_FixVar.pr k a0 l0 a2 so (shl .i64 1 (wrap64 (v - 1)))) a0).bind fun x => some (x.1, x.2.1, x.2.2, true)) else none) else some (0, ([] : List (S75)), 0, false)) else some (0, ([] : List (S75)), 0, false)
theorem impl_FixVar.mono : ∀ a0 a1 a2 a3 a4 k, LeO (impl_FixVar.f k a0 a1 a2 a3 a4) (impl_FixVar.f (k + 1) a0 a1 a2 a3 a4) := by
  intro a0 a1 a2 a3 a4 k
  unfold impl_FixVar.f
  exact LeO.bind (impl_GoodDiagram.mono _ _ _ _) (fun _ => LeO.ite (LeO.bind (LeO.refl _) (fun _ => LeO.ite (LeO.ite (LeO.bind (impl_FixVar.mapf_mono _ _ _ _ (fun _ => impl_FixVar.pr_mono _ _ _ _ _ _ _)) (fun _ => LeO.refl _)) (LeO.none _)) (LeO.refl _))) (LeO.refl _))
set_option maxHeartbeats 8000000 in
set_option maxRecDepth 100000 in
theorem impl_FixVar.calls (k : Nat) (a0 : Int) (A0 : Option Addr) (c0 : Nat) (l0 : List (S75)) (a2 : Int) (v : Int) (so : Bool) (r1 : Int) (r2 : List (S75)) (r3 : Int) (r4 : Bool) (w : World) (hr0 : Kd.C k75 w A0 l0.length l0) (hc0 : l0.length ≤ c0) (h : impl_FixVar.f k a0 l0 a2 v so = some (r1, r2, r3, r4)) :
    Calls Try.prog 32 #[.agg #[.int .i64 a0, .slice A0 l0.length c0, .int .i64 a2], .int .i64 v, .bool so] w fun e w' => ∃ v1_ : Value, e = .returned (.tuple #[.agg #[.int .i64 r1, v1_, .int .i64 r3], .bool r4]) ∧ Kd.R k75 75 w' w.heap.size (fun _ => True) v1_ r2 ∧ Below w.heap.size w w' := by
  have hu30 := Try.underlying30
  have HR0 := Aside0.mk hr0
  have HC0 := Aside0.mk hc0
  have HB := Aside0.mk (Below.refl w.heap.size w)
  obtain ⟨g, A10, h1⟩ := Option.bind_eq_some_iff.mp h
  have AG := Aside0.mk A10
  clear hr0 hc0 A10 h
  by_cases c8 : g = true
  · subst c8
    rw [if_pos rfl] at h1
    obtain ⟨g', A10, h2⟩ := Option.bind_eq_some_iff.mp h1
    have AI := Aside0.mk A10
    clear A10 h1
    by_cases c9 : g' = true
    · subst c9
      rw [if_pos rfl] at h2
      obtain ⟨jv, hjv⟩ : ∃ j_ : Int, wrap64 (v - 1) = j_ := ⟨_, rfl⟩
      have hjvw : (IntKind.i64.wrap (v - 1)) = jv := (i64_w _).trans hjv
      rw [hjv] at h2
      by_cases c10 : 0 ≤ jv
      · rw [if_pos c10] at h2
        have c10b := eq_true c10
        have c10d : decide (0 ≤ jv) = true := decide_eq_true c10
        clear c10
        obtain ⟨bit, hbit⟩ : ∃ j_ : Int, (shl .i64 1 jv) = j_ := ⟨_, rfl⟩
        have hbit_ : (IntKind.i64.wrap (1 * 2 ^ min jv.toNat 64)) = bit := hbit
        have hbitz : jv ≤ 64 → (IntKind.i64.wrap (1 * 2 ^ jv.toNat)) = bit := shl_small hbit
        have hbitu : (IntKind.i64.wrap (2 ^ min jv.toNat 64)) = bit := by have h_ := hbit_; rw [Int.one_mul] at h_; exact h_
        have hbitv : jv ≤ 64 → (IntKind.i64.wrap (2 ^ jv.toNat)) = bit := fun hle_ => by have h_ := hbitz hle_; rw [Int.one_mul] at h_; exact h_
        have hbity : (wrap64 (1 * 2 ^ min jv.toNat 64)) = bit := (i64_w _).symm.trans hbit_
        have hbitx : jv ≤ 64 → (wrap64 (1 * 2 ^ jv.toNat)) = bit := fun h_ => (i64_w _).symm.trans (hbitz h_)
        rw [hbit] at h2
        obtain ⟨⟨x1, x2, x3⟩, A10, h3⟩ := Option.bind_eq_some_iff.mp h2
        have AM := Aside0.mk A10
        clear A10 h2
        simp only [Option.some.injEq, Prod.mk.injEq] at h3
        obtain ⟨rfl, rfl, rfl, rfl⟩ := h3
        go_enter Try.func32, Try.ntmps32
        go_wp2_with (first | ((with_reducible refine gate_dst (N := 3) rfl ?_); refine boxq_ (N := 3) (cs := #[.int .i64 a0, .slice A0 l0.length c0, .int .i64 a2]) (t := 30) ?_; intro g1 hg w1 hbox hb; have GEg1 := Aside0.mk ((by rw [hg]; exact (below_size (bq_))) : w.heap.size ≤ g1); have n0_ := Aside0.mk (below_step (bq_) hb); clear HB; have HB := n0_; have BK1 := Aside0.mk hbox; clear n0_ hb hbox hg) | ((with_reducible refine gate_dst (N := 5) rfl ?_); refine boxq_ (N := 5) (cs := #[.bool so]) (t := 4) ?_; intro g2 hg w2 hbox hb; have GEg2 := Aside0.mk ((by rw [hg]; exact (below_size (bq_))) : w.heap.size ≤ g2); have NEg1g2 := Aside0.mk ((by rw [hg]; exact Nat.ne_of_lt (blk_lt BK1.out)) : g1 ≠ g2); have mBK1_ := Aside0.mk (blk_below BK1.out hb); have n0_ := Aside0.mk (below_step (bq_) hb); clear HB BK1; have HB := n0_; have BK1 := mBK1_; clear mBK1_; have BK2 := Aside0.mk hbox; clear n0_ hb hbox hg) | ((with_reducible refine gate_dst (N := 6) rfl ?_); refine boxq_ (N := 6) (cs := #[.int .i64 0, .slice none 0 0, .int .i64 0]) (t := 30) ?_; intro g3 hg w3 hbox hb; have GEg3 := Aside0.mk ((by rw [hg]; exact (below_size (bq_))) : w.heap.size ≤ g3); have NEg1g3 := Aside0.mk ((by rw [hg]; exact Nat.ne_of_lt (blk_lt BK1.out)) : g1 ≠ g3); have mBK1_ := Aside0.mk (blk_below BK1.out hb); have NEg2g3 := Aside0.mk ((by rw [hg]; exact Nat.ne_of_lt (blk_lt BK2.out)) : g2 ≠ g3); have mBK2_ := Aside0.mk (blk_below BK2.out hb); have n0_ := Aside0.mk (below_step (bq_) hb); clear HB BK1 BK2; have HB := n0_; have BK1 := mBK1_; clear mBK1_; have BK2 := mBK2_; clear mBK2_; have BR := Aside0.mk hbox; clear n0_ hb hbox hg; have hcz0 := cq_ BK1.out 0 (.int .i64 a0); have hcz1 := cq_ BK1.out 1 (.slice A0 l0.length c0); have hcz2 := cq_ BK1.out 2 (.int .i64 a2); have hcy0 := cq_ BR.out 0 (.int .i64 0); have hcy1 := cq_ BR.out 1 (.slice none 0 0); have hcy2 := cq_ BR.out 2 (.int .i64 0); have hfy0 := blk_frozen BR.out 0; have hfy1 := blk_frozen BR.out 1; have hfy2 := blk_frozen BR.out 2; have hnb := NEg1g3.out; have hnc := Ne.symm NEg1g3.out) | (have t_ := AG; go_at_call 44; refine (impl_GoodDiagram.calls k a0 _ _ l0 a2 true _ (by (with_reducible repeat (first | apply Kd.C_alloc | apply Kd.C_drewN | apply Kd.C_drew)); exact Kd.C_below HR0.out (bq_)) HC0.out AG.out).mono ?_; rintro e w4 ⟨rfl, hb⟩; have mBK1_ := Aside0.mk (blk_below (bk_ BK1.out) hb); have mBK2_ := Aside0.mk (blk_below (bk_ BK2.out) hb); have mBR_ := Aside0.mk (blk_below (bk_ BR.out) hb); have n0_ := Aside0.mk (below_step (bq_) hb); clear HB BK1 BK2 BR; have HB := n0_; have BK1 := mBK1_; clear mBK1_; have BK2 := mBK2_; clear mBK2_; have BR := mBR_; clear mBR_; clear n0_ hb; clear AG t_; clear hcz0 hcz1 hcz2 hcy0 hcy1 hcy2 hfy0 hfy1 hfy2; have hcz0 := cq_ BK1.out 0 (.int .i64 a0); have hcz1 := cq_ BK1.out 1 (.slice A0 l0.length c0); have hcz2 := cq_ BK1.out 2 (.int .i64 a2); have hcy0 := cq_ BR.out 0 (.int .i64 0); have hcy1 := cq_ BR.out 1 (.slice none 0 0); have hcy2 := cq_ BR.out 2 (.int .i64 0); have hfy0 := blk_frozen BR.out 0; have hfy1 := blk_frozen BR.out 1; have hfy2 := blk_frozen BR.out 2) | (go_at_call 68; refine (impl_in.calls v 1 a0 true _ AI.out).mono ?_; rintro e w' ⟨rfl, ⟨nd, rfl⟩⟩) | ((with_reducible refine gate_dst (N := 8) rfl ?_); refine boxq_ (N := 8) (cs := #[.int .i64 0]) (t := 3) ?_; intro g4 hg w6 hbox hb; have GEg4 := Aside0.mk ((by rw [hg]; exact (below_size (bq_))) : w.heap.size ≤ g4); have NEg3g4 := Aside0.mk ((by rw [hg]; exact Nat.ne_of_lt (blk_lt (show (w4.drewN nd).heap[g3]? = _ from bk_ BR.out))) : g3 ≠ g4); have NEg1g4 := Aside0.mk ((by rw [hg]; exact Nat.ne_of_lt (blk_lt (show (w4.drewN nd).heap[g1]? = _ from bk_ BK1.out))) : g1 ≠ g4); have NEg2g4 := Aside0.mk ((by rw [hg]; exact Nat.ne_of_lt (blk_lt (show (w4.drewN nd).heap[g2]? = _ from bk_ BK2.out))) : g2 ≠ g4); have mBK1_ := Aside0.mk (blk_below (bk_ BK1.out) hb); have mBK2_ := Aside0.mk (blk_below (bk_ BK2.out) hb); have mBR_ := Aside0.mk (blk_below (bk_ BR.out) hb); have n0_ := Aside0.mk (below_step (bq_) hb); clear HB BK1 BK2 BR; have HB := n0_; have BK1 := mBK1_; clear mBK1_; have BK2 := mBK2_; clear mBK2_; have BR := mBR_; clear mBR_; clear n0_ hb; have BK4 := Aside0.mk hbox; clear hbox hg; clear hcz0 hcz1 hcz2 hcy0 hcy1 hcy2 hfy0 hfy1 hfy2; have hcz0 := cq_ BK1.out 0 (.int .i64 a0); have hcz1 := cq_ BK1.out 1 (.slice A0 l0.length c0); have hcz2 := cq_ BK1.out 2 (.int .i64 a2); have hcx0 := cq_ BK4.out 0 (.int .i64 0); have hfx0 := blk_frozen BK4.out 0; have hnd := NEg1g4.out; have hne := Ne.symm NEg1g4.out) | (go_at_call 63; have n0_ := Aside0.mk (show Below w.heap.size w (w6.setCell ⟨g4, 0, none⟩ (.int .i64 bit)) from below_set HB.out GEg4.out); have n1_ := Aside0.mk (show (w6.setCell ⟨g4, 0, none⟩ (.int .i64 bit)).heap[g1]? = _ from blk_far BK1.out (p := ⟨g4, 0, none⟩) (show g1 ≠ g4 from NEg1g4.out) _); have n2_ := Aside0.mk (show (w6.setCell ⟨g4, 0, none⟩ (.int .i64 bit)).heap[g2]? = _ from blk_far BK2.out (p := ⟨g4, 0, none⟩) (show g2 ≠ g4 from NEg2g4.out) _); have n3_ := Aside0.mk (show (w6.setCell ⟨g4, 0, none⟩ (.int .i64 bit)).heap[g3]? = _ from blk_far BR.out (p := ⟨g4, 0, none⟩) (show g3 ≠ g4 from NEg3g4.out) _); have n4_ := Aside0.mk (show (w6.setCell ⟨g4, 0, none⟩ (.int .i64 bit)).heap[g4]? = _ from blk_put (cs := #[.int .i64 0]) (cs' := #[.int .i64 bit]) BK4.out 0 (.int .i64 bit) rfl); generalize (w6.setCell ⟨g4, 0, none⟩ (.int .i64 bit)) = W8 at n0_ n1_ n2_ n3_ n4_ ⊢; clear HB BK1 BK2 BR BK4 hcz0 hcz1 hcz2 hcx0 hfx0; refine (impl_FixVar.map_calls k g2 g1 g4 (impl_FixVar.pr k a0 l0 a2 so bit) a0 x1 x2 x3 _ (fun W x v hbW hv => impl_FixVar.pr_calls k g2 g1 g4 A0 c0 a0 l0 a2 so bit x v W (blk_below n2_.out hbW) (blk_below n1_.out hbW) (blk_below n4_.out hbW) (Kd.C_below (Kd.C_below HR0.out n0_.out) hbW) HC0.out hv) AM.out).mono ?_; rintro e w7 ⟨v1, rfl, ho, hb⟩; have NV := Aside0.mk (show v1.ownBlock ≠ some g3 from fun he => by have := Kd.R_base ho g3 he; have := blk_lt n3_.out; omega); have BR := Aside0.mk (blk_below n3_.out hb); have HO := Aside0.mk (Kd.R_lower ho (below_size n0_.out)); have HB := Aside0.mk (below_step n0_.out hb); clear n0_ n1_ n2_ n3_ n4_ ho hb; obtain ⟨Ao, co, eo⟩ := Kd.R_slice HO.out; subst eo; have hcy0 := cq_ BR.out 0 (.int .i64 0); have hcy1 := cq_ BR.out 1 (.slice none 0 0); have hcy2 := cq_ BR.out 2 (.int .i64 0); have hfy0 := blk_frozen BR.out 0; have hfy1 := blk_frozen BR.out 1; have hfy2 := blk_frozen BR.out 2))
        refine bodyPost_ret (results_ct rfl _ _ g3 30 #[.int .i64 x1, (.slice Ao x2.length co), .int .i64 x3] (0, 0) _ rfl (blk_put (cs := #[.int .i64 x1, (.slice Ao x2.length co), .int .i64 0]) (cs' := #[.int .i64 x1, (.slice Ao x2.length co), .int .i64 x3]) (blk_put (cs := #[.int .i64 x1, .slice none 0 0, .int .i64 0]) (cs' := #[.int .i64 x1, (.slice Ao x2.length co), .int .i64 0]) (blk_put (cs := #[.int .i64 0, .slice none 0 0, .int .i64 0]) (cs' := #[.int .i64 x1, .slice none 0 0, .int .i64 0]) (BR.out) 0 (.int .i64 x1) rfl) 1 ((.slice Ao x2.length co)) rfl) 2 (.int .i64 x3) rfl) Try.underlying30 rfl (by kernel_rfl)) rfl ?_
        exact ⟨_, by first | rfl | (simp; done) | (simp [*]; done), Kd.R_mono (Kd.R_far (p := ⟨g3, 2, none⟩) (Kd.R_far (p := ⟨g3, 1, none⟩) (Kd.R_far (p := ⟨g3, 0, none⟩) (impl_Diagram_build.flat (show Kd.R k75 75 w7 w.heap.size (fun _ => True) (.slice Ao x2.length co) x2 from HO.out) (ok' := fun k => k ≠ g3) (fun k hk _ => fun he => NV.out (by rw [hk, he]))) (fun k h => h) (.int .i64 x1)) (fun k h => h) ((.slice Ao x2.length co))) (fun k h => h) (.int .i64 x3)) (fun _ _ => trivial), below_set (j := 2) (v := (.int .i64 x3)) (below_set (j := 1) (v := ((.slice Ao x2.length co))) (below_set (j := 0) (v := (.int .i64 x1)) (HB.out) GEg3.out) GEg3.out) GEg3.out⟩
      · rw [if_neg c10] at h2
        exact absurd h2 (by simp)
    · replace c9 := Bool.eq_false_iff.mpr c9
      subst c9
      rw [if_neg (by simp)] at h2
      simp only [Option.some.injEq, Prod.mk.injEq] at h2
      obtain ⟨rfl, rfl, rfl, rfl⟩ := h2
      go_enter Try.func32, Try.ntmps32
      go_wp2_with (first | ((with_reducible refine gate_dst (N := 3) rfl ?_); refine boxq_ (N := 3) (cs := #[.int .i64 a0, .slice A0 l0.length c0, .int .i64 a2]) (t := 30) ?_; intro g1 hg w1 hbox hb; have GEg1 := Aside0.mk ((by rw [hg]; exact (below_size (bq_))) : w.heap.size ≤ g1); have n0_ := Aside0.mk (below_step (bq_) hb); clear HB; have HB := n0_; have BK1 := Aside0.mk hbox; clear n0_ hb hbox hg) | ((with_reducible refine gate_dst (N := 5) rfl ?_); refine boxq_ (N := 5) (cs := #[.bool so]) (t := 4) ?_; intro g2 hg w2 hbox hb; have GEg2 := Aside0.mk ((by rw [hg]; exact (below_size (bq_))) : w.heap.size ≤ g2); have NEg1g2 := Aside0.mk ((by rw [hg]; exact Nat.ne_of_lt (blk_lt BK1.out)) : g1 ≠ g2); have mBK1_ := Aside0.mk (blk_below BK1.out hb); have n0_ := Aside0.mk (below_step (bq_) hb); clear HB BK1; have HB := n0_; have BK1 := mBK1_; clear mBK1_; have BK2 := Aside0.mk hbox; clear n0_ hb hbox hg) | ((with_reducible refine gate_dst (N := 6) rfl ?_); refine boxq_ (N := 6) (cs := #[.int .i64 0, .slice none 0 0, .int .i64 0]) (t := 30) ?_; intro g3 hg w3 hbox hb; have GEg3 := Aside0.mk ((by rw [hg]; exact (below_size (bq_))) : w.heap.size ≤ g3); have NEg1g3 := Aside0.mk ((by rw [hg]; exact Nat.ne_of_lt (blk_lt BK1.out)) : g1 ≠ g3); have mBK1_ := Aside0.mk (blk_below BK1.out hb); have NEg2g3 := Aside0.mk ((by rw [hg]; exact Nat.ne_of_lt (blk_lt BK2.out)) : g2 ≠ g3); have mBK2_ := Aside0.mk (blk_below BK2.out hb); have n0_ := Aside0.mk (below_step (bq_) hb); clear HB BK1 BK2; have HB := n0_; have BK1 := mBK1_; clear mBK1_; have BK2 := mBK2_; clear mBK2_; have BR := Aside0.mk hbox; clear n0_ hb hbox hg; have hcz0 := cq_ BK1.out 0 (.int .i64 a0); have hcz1 := cq_ BK1.out 1 (.slice A0 l0.length c0); have hcz2 := cq_ BK1.out 2 (.int .i64 a2); have hcy0 := cq_ BR.out 0 (.int .i64 0); have hcy1 := cq_ BR.out 1 (.slice none 0 0); have hcy2 := cq_ BR.out 2 (.int .i64 0); have hfy0 := blk_frozen BR.out 0; have hfy1 := blk_frozen BR.out 1; have hfy2 := blk_frozen BR.out 2; have hnb := NEg1g3.out; have hnc := Ne.symm NEg1g3.out) | (have t_ := AG; go_at_call 44; refine (impl_GoodDiagram.calls k a0 _ _ l0 a2 true _ (by (with_reducible repeat (first | apply Kd.C_alloc | apply Kd.C_drewN | apply Kd.C_drew)); exact Kd.C_below HR0.out (bq_)) HC0.out AG.out).mono ?_; rintro e w4 ⟨rfl, hb⟩; have mBK1_ := Aside0.mk (blk_below (bk_ BK1.out) hb); have mBK2_ := Aside0.mk (blk_below (bk_ BK2.out) hb); have mBR_ := Aside0.mk (blk_below (bk_ BR.out) hb); have n0_ := Aside0.mk (below_step (bq_) hb); clear HB BK1 BK2 BR; have HB := n0_; have BK1 := mBK1_; clear mBK1_; have BK2 := mBK2_; clear mBK2_; have BR := mBR_; clear mBR_; clear n0_ hb; clear AG t_; clear hcz0 hcz1 hcz2 hcy0 hcy1 hcy2 hfy0 hfy1 hfy2; have hcz0 := cq_ BK1.out 0 (.int .i64 a0); have hcz1 := cq_ BK1.out 1 (.slice A0 l0.length c0); have hcz2 := cq_ BK1.out 2 (.int .i64 a2); have hcy0 := cq_ BR.out 0 (.int .i64 0); have hcy1 := cq_ BR.out 1 (.slice none 0 0); have hcy2 := cq_ BR.out 2 (.int .i64 0); have hfy0 := blk_frozen BR.out 0; have hfy1 := blk_frozen BR.out 1; have hfy2 := blk_frozen BR.out 2) | (go_at_call 68; refine (impl_in.calls v 1 a0 false _ AI.out).mono ?_; rintro e w' ⟨rfl, ⟨nd, rfl⟩⟩))
      refine bodyPost_ret (results_ct rfl _ _ g3 30 #[.int .i64 0, .slice none 0 0, .int .i64 0] (0, 0) _ rfl (blk_put (cs := #[.int .i64 0, .slice none 0 0, .int .i64 0]) (cs' := #[.int .i64 0, .slice none 0 0, .int .i64 0]) (blk_put (cs := #[.int .i64 0, .slice none 0 0, .int .i64 0]) (cs' := #[.int .i64 0, .slice none 0 0, .int .i64 0]) (blk_put (cs := #[.int .i64 0, .slice none 0 0, .int .i64 0]) (cs' := #[.int .i64 0, .slice none 0 0, .int .i64 0]) ((bk_ BR.out)) 0 (.int .i64 0) rfl) 1 (.slice none 0 0) rfl) 2 (.int .i64 0) rfl) Try.underlying30 rfl (by kernel_rfl)) rfl ?_
      exact ⟨_, by first | rfl | (simp; done) | (simp [*]; done), Kd.R_nil _ _ _ _ _, below_set (j := 2) (v := (.int .i64 0)) (below_set (j := 1) (v := (.slice none 0 0)) (below_set (j := 0) (v := (.int .i64 0)) ((bq_)) GEg3.out) GEg3.out) GEg3.out⟩
  · replace c8 := Bool.eq_false_iff.mpr c8
    subst c8
    rw [if_neg (by simp)] at h1
    simp only [Option.some.injEq, Prod.mk.injEq] at h1
    obtain ⟨rfl, rfl, rfl, rfl⟩ := h1
    go_enter Try.func32, Try.ntmps32
    go_wp2_with (first | ((with_reducible refine gate_dst (N := 3) rfl ?_); refine boxq_ (N := 3) (cs := #[.int .i64 a0, .slice A0 l0.length c0, .int .i64 a2]) (t := 30) ?_; intro g1 hg w1 hbox hb; have GEg1 := Aside0.mk ((by rw [hg]; exact (below_size (bq_))) : w.heap.size ≤ g1); have n0_ := Aside0.mk (below_step (bq_) hb); clear HB; have HB := n0_; have BK1 := Aside0.mk hbox; clear n0_ hb hbox hg) | ((with_reducible refine gate_dst (N := 5) rfl ?_); refine boxq_ (N := 5) (cs := #[.bool so]) (t := 4) ?_; intro g2 hg w2 hbox hb; have GEg2 := Aside0.mk ((by rw [hg]; exact (below_size (bq_))) : w.heap.size ≤ g2); have NEg1g2 := Aside0.mk ((by rw [hg]; exact Nat.ne_of_lt (blk_lt BK1.out)) : g1 ≠ g2); have mBK1_ := Aside0.mk (blk_below BK1.out hb); have n0_ := Aside0.mk (below_step (bq_) hb); clear HB BK1; have HB := n0_; have BK1 := mBK1_; clear mBK1_; have BK2 := Aside0.mk hbox; clear n0_ hb hbox hg) | ((with_reducible refine gate_dst (N := 6) rfl ?_); refine boxq_ (N := 6) (cs := #[.int .i64 0, .slice none 0 0, .int .i64 0]) (t := 30) ?_; intro g3 hg w3 hbox hb; have GEg3 := Aside0.mk ((by rw [hg]; exact (below_size (bq_))) : w.heap.size ≤ g3); have NEg1g3 := Aside0.mk ((by rw [hg]; exact Nat.ne_of_lt (blk_lt BK1.out)) : g1 ≠ g3); have mBK1_ := Aside0.mk (blk_below BK1.out hb); have NEg2g3 := Aside0.mk ((by rw [hg]; exact Nat.ne_of_lt (blk_lt BK2.out)) : g2 ≠ g3); have mBK2_ := Aside0.mk (blk_below BK2.out hb); have n0_ := Aside0.mk (below_step (bq_) hb); clear HB BK1 BK2; have HB := n0_; have BK1 := mBK1_; clear mBK1_; have BK2 := mBK2_; clear mBK2_; have BR := Aside0.mk hbox; clear n0_ hb hbox hg; have hcz0 := cq_ BK1.out 0 (.int .i64 a0); have hcz1 := cq_ BK1.out 1 (.slice A0 l0.length c0); have hcz2 := cq_ BK1.out 2 (.int .i64 a2); have hcy0 := cq_ BR.out 0 (.int .i64 0); have hcy1 := cq_ BR.out 1 (.slice none 0 0); have hcy2 := cq_ BR.out 2 (.int .i64 0); have hfy0 := blk_frozen BR.out 0; have hfy1 := blk_frozen BR.out 1; have hfy2 := blk_frozen BR.out 2; have hnb := NEg1g3.out; have hnc := Ne.symm NEg1g3.out) | (have t_ := AG; go_at_call 44; refine (impl_GoodDiagram.calls k a0 _ _ l0 a2 false _ (by (with_reducible repeat (first | apply Kd.C_alloc | apply Kd.C_drewN | apply Kd.C_drew)); exact Kd.C_below HR0.out (bq_)) HC0.out AG.out).mono ?_; rintro e w4 ⟨rfl, hb⟩; have mBK1_ := Aside0.mk (blk_below (bk_ BK1.out) hb); have mBK2_ := Aside0.mk (blk_below (bk_ BK2.out) hb); have mBR_ := Aside0.mk (blk_below (bk_ BR.out) hb); have n0_ := Aside0.mk (below_step (bq_) hb); clear HB BK1 BK2 BR; have HB := n0_; have BK1 := mBK1_; clear mBK1_; have BK2 := mBK2_; clear mBK2_; have BR := mBR_; clear mBR_; clear n0_ hb; clear AG t_; clear hcz0 hcz1 hcz2 hcy0 hcy1 hcy2 hfy0 hfy1 hfy2; have hcz0 := cq_ BK1.out 0 (.int .i64 a0); have hcz1 := cq_ BK1.out 1 (.slice A0 l0.length c0); have hcz2 := cq_ BK1.out 2 (.int .i64 a2); have hcy0 := cq_ BR.out 0 (.int .i64 0); have hcy1 := cq_ BR.out 1 (.slice none 0 0); have hcy2 := cq_ BR.out 2 (.int .i64 0); have hfy0 := blk_frozen BR.out 0; have hfy1 := blk_frozen BR.out 1; have hfy2 := blk_frozen BR.out 2))
    refine bodyPost_ret (results_ct rfl _ _ g3 30 #[.int .i64 0, .slice none 0 0, .int .i64 0] (0, 0) _ rfl (blk_put (cs := #[.int .i64 0, .slice none 0 0, .int .i64 0]) (cs' := #[.int .i64 0, .slice none 0 0, .int .i64 0]) (blk_put (cs := #[.int .i64 0, .slice none 0 0, .int .i64 0]) (cs' := #[.int .i64 0, .slice none 0 0, .int .i64 0]) (blk_put (cs := #[.int .i64 0, .slice none 0 0, .int .i64 0]) (cs' := #[.int .i64 0, .slice none 0 0, .int .i64 0]) ((bk_ BR.out)) 0 (.int .i64 0) rfl) 1 (.slice none 0 0) rfl) 2 (.int .i64 0) rfl) Try.underlying30 rfl (by kernel_rfl)) rfl ?_
    exact ⟨_, by first | rfl | (simp; done) | (simp [*]; done), Kd.R_nil _ _ _ _ _, below_set (j := 2) (v := (.int .i64 0)) (below_set (j := 1) (v := (.slice none 0 0)) (below_set (j := 0) (v := (.int .i64 0)) ((bq_)) GEg3.out) GEg3.out) GEg3.out⟩

end Go.Proofs.Ytpndhlcbfobelaa.PSF
