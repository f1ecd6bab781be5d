import Derived.Test.YtpndhlcbfobelaaPBEx0
import Derived.Test.YtpndhlcbfobelaaPBEx2
import Derived.Test.YtpndhlcbfobelaaPBEx3
import Derived.Test.YtpndhlcbfobelaaPBEx5
import Derived.Test.YtpndhlcbfobelaaPBEx6
import Derived.Test.YtpndhlcbfobelaaPBEx7
namespace Go.Proofs.Ytpndhlcbfobelaa.PBE
open Go.RowKit Go.Proofs.YtpndhlcbfobelaaW.PrintWords Go.Proofs.YtpndhlcbfobelaaW.PrintLast Go.Proofs.YtpndhlcbfobelaaW.PrintMore
attribute [local go_sem] max2_int min2_int max_two min_two max_three min_three max_four min_four   -- for this text's walks alone
set_option linter.unusedVariables false
set_option linter.unusedSimpArgs false
def impl_ByClauses.pr (k : Nat) (l : List (List Int)) (vars i : Int) : Option Bool := (impl_model.f k vars i).bind fun m => impl_holds.f k l m
set_option maxHeartbeats 4000000 in
set_option maxRecDepth 100000 in
theorem impl_ByClauses.pr_calls (k B0 B1 : Nat) (A : Option Addr) (c : Nat) (l : List (List Int)) (vars x : Int) (v : Bool) (w : World) (hB0 : w.heap[B0]? = some (.cells #[.slice A l.length c] 50 (0, 0))) (hB1 : w.heap[B1]? = some (.cells #[.int .i64 vars] 3 (0, 0))) (hr : Kd.C (Kd.slice 3 (Kd.int .i64)) w A l.length l) (hc : l.length ≤ c) (h : impl_ByClauses.pr k l vars x = some v) :
    Calls Try.prog 76 #[.int .i64 x, .pointer (some ⟨B0, 0, none⟩), .pointer (some ⟨B1, 0, none⟩)] w fun e w' => e = .returned (.bool v) ∧ Below w.heap.size w w' := by
  have HR := Aside0.mk hr
  have HC := Aside0.mk hc
  unfold impl_ByClauses.pr at h
  clear hr hc
  have hc0 : w.cell? ⟨B0, 0, none⟩ = some (.slice A l.length c) := (blk_cell hB0 0).trans rfl
  have hc1 : w.cell? ⟨B1, 0, none⟩ = some (.int .i64 vars) := (blk_cell hB1 0).trans rfl
  clear hB0 hB1
  obtain ⟨m, A70, h⟩ := Option.bind_eq_some_iff.mp h
  have A7 := Aside0.mk A70
  have A8 := Aside0.mk h
  clear A70 h
  go_enter Try.func76, Try.ntmps76
  go_wp2
  refine start_ (n := 6) (S := fun w' => w'.cell? ⟨B0, 0, none⟩ = some (.slice A l.length c) ∧ w'.cell? ⟨B1, 0, none⟩ = some (.int .i64 vars)) (ds := [4]) #[false, false, false, false, false, false] (by kernel_rfl) rfl rfl ⟨hc0, hc1⟩ (fun hHeld => ?_)
  have HBD := Aside0.mk (show Below w.heap.size w w.drew from below_drew (Below.refl _ _))
  clear hc0 hc1
  generalize w.drew = w9 at HBD hHeld ⊢
  refine take_ (i := 0) (N := some 5) (v := ?_) (a' := ?_) #[true, false, false, false, false, false] rfl rfl (by kernel_rfl) (fun _ _ _ h => h) (Or.inl ⟨by rfl, ?_⟩) hHeld ?_ ?_
  rotate_left
  · rintro w' ⟨s0, s1⟩
    go_simp
    with_reducible rfl
  rotate_left
  · simp only [Act.put, List.setIfInBounds_toArray, List.set_cons_zero, List.set_cons_succ, i64_w, i32_w]
    rfl
  refine take_ (i := 1) (N := some 6) (v := ?_) (a' := ?_) #[true, true, false, false, false, false] rfl rfl (by kernel_rfl) (fun _ _ _ h => h) (Or.inl ⟨by rfl, ?_⟩) hHeld ?_ ?_
  rotate_left
  · rintro w' ⟨s0, s1⟩
    go_simp
    with_reducible rfl
  rotate_left
  · simp only [Act.put, List.setIfInBounds_toArray, List.set_cons_zero, List.set_cons_succ, i64_w, i32_w]
    rfl
  refine pure_ (i := 2) (N := some 7) (v := ?_) (a' := ?_) #[true, true, true, false, false, false] rfl rfl (by kernel_rfl) (fun _ _ _ h => h) (Or.inl ⟨by rfl, ?_⟩) ?_ ?_
  rotate_left
  · intro w'
    go_simp
    with_reducible rfl
  rotate_left
  · simp only [Act.put, List.setIfInBounds_toArray, List.set_cons_zero, List.set_cons_succ, i64_w, i32_w]
    rfl
  refine one_ (i := 3) (N := some 8) #[true, true, true, true, false, false] rfl rfl (by kernel_rfl) (by decide) (fun K hK => ?_)
  refine goes_ Try.func78 (by kernel_rfl) rfl #[.int .i64 vars, .int .i64 x] (by rfl) rfl rfl (by (try simp only [List.map_toArray, List.map_cons, List.map_nil]); first | done | rfl) ?_
  refine (impl_model.calls k vars x m _ A7.out).mono ?_
  rintro e w10 ⟨v1, rfl, ho, hb⟩
  refine ⟨_, rfl, ?_⟩
  obtain ⟨Ao, co, eo⟩ := Kd.R_slice ho
  subst eo
  have HO := Aside0.mk ho
  have HBD2 := Aside0.mk (below_step HBD.out hb)
  refine hK.out _ _ ⟨pw_cell_below hb hHeld.1, pw_cell_below hb hHeld.2⟩ (fun hHeld2 => ?_)
  clear hK K hHeld hb ho
  refine norm_ (a' := ?_) ?_ ?_
  rotate_left
  · show Act.put _ (some 8) _ = _
    simp only [Act.put, List.setIfInBounds_toArray, List.set_cons_zero, List.set_cons_succ, i64_w, i32_w]
    rfl
  refine last_ (i := 4) (N := some 9) #[true, true, true, true, true, false] rfl rfl (by kernel_rfl) (by decide) (fun K hK => ?_)
  refine goes_ Try.func77 (by kernel_rfl) rfl #[.slice A l.length c, .slice Ao m.length co] (by rfl) rfl rfl (by (try simp only [List.map_toArray, List.map_cons, List.map_nil]); first | done | rfl) ?_
  refine (impl_holds.calls k A c l Ao co m v _ (Kd.C_below HR.out HBD2.out) HC.out (Kd.R_reads' HO.out).2.2 (Kd.R_reads' HO.out).2.1 A8.out).mono ?_
  rintro e w11 ⟨rfl, hb⟩
  have HBD3 := Aside0.mk (below_step HBD2.out hb)
  clear hb
  refine ⟨_, rfl, ?_⟩
  refine hK.out _ _ ?_
  clear hK K
  refine norm_ (a' := ?_) ?_ ?_
  rotate_left
  · show Act.put _ (some 9) _ = _
    simp only [Act.put, List.setIfInBounds_toArray, List.set_cons_zero, List.set_cons_succ, i64_w, i32_w]
    rfl
  refine pure_ (i := 5) (N := some 4) (v := ?_) (a' := ?_) #[true, true, true, true, true, true] rfl rfl (by kernel_rfl) (fun _ _ _ h => h) (Or.inl ⟨by rfl, ?_⟩) ?_ ?_
  rotate_left
  · intro w'
    go_simp
    with_reducible rfl
  rotate_left
  · simp only [Act.put, List.setIfInBounds_toArray, List.set_cons_zero, List.set_cons_succ, i64_w, i32_w]
    rfl
  refine done_ (by kernel_rfl) ?_
  go_wp2
  go_ret
  exact ⟨by first | rfl | (simp; done) | (simp [*]; done), by repeat (first | exact HBD3.out | apply pw_below_drewN | apply below_drew1)⟩
def impl_ByClauses.ml : Nat → (Int → Option Bool) → Int → List Bool → Int → Option (List Bool)
  | 0, _, _, _, _ => none
  | k + 1, p, N, out, i => if i < N then ((p i).bind fun t => (if out.length < 17592186044416 then impl_ByClauses.ml k p N (out ++ [t]) (wrap64 (i + 1)) else none)) else some out
def impl_ByClauses.mapf (k : Nat) (p : Int → Option Bool) (vars : Int) : Option (Int × List S75 × Int) := if 0 ≤ vars then ((impl_ByClauses.ml k p (shl .i64 1 vars) [] 0).bind fun t => impl_diagram.f k vars t) else none
set_option maxHeartbeats 8000000 in
set_option maxRecDepth 100000 in
theorem impl_ByClauses.map_calls (k : Nat) (B0 B1 : Nat) (p : Int → Option Bool) (vars : Int) (r1 : Int) (r2 : List S75) (r3 : Int) (w : World)
    (hp : ∀ (W : World) (x : Int) (v : Bool), Below w.heap.size w W → p x = some v → Calls Try.prog 76 #[.int .i64 x, .pointer (some ⟨B0, 0, none⟩), .pointer (some ⟨B1, 0, none⟩)] W fun e w' => e = .returned (.bool v) ∧ Below W.heap.size W w')
    (h : impl_ByClauses.mapf k p vars = some (r1, r2, r3)) :
    Calls Try.prog 63 #[.int .i64 vars, .func (.func 76) #[] #[.pointer (some ⟨B0, 0, none⟩), .pointer (some ⟨B1, 0, none⟩)]] w fun e w' => ∃ v1_ : Value, e = .returned (.agg #[.int .i64 r1, v1_, .int .i64 r3]) ∧ Kd.R k75 75 w' w.heap.size (fun _ => True) v1_ r2 ∧ Below w.heap.size w w' := by
  have hu30 := Try.underlying30
  have HP := Aside0.mk hp
  clear hp
  have HB := Aside0.mk (Below.refl w.heap.size w)
  unfold impl_ByClauses.mapf at h
  by_cases c0 : 0 ≤ vars
  · rw [if_pos c0] at h
    have c0b := eq_true c0
    have c0d : decide (0 ≤ vars) = true := decide_eq_true c0
    clear c0
    obtain ⟨ji, hji⟩ : ∃ j_ : Int, (shl .i64 1 vars) = j_ := ⟨_, rfl⟩
    have hji_ : (IntKind.i64.wrap (1 * 2 ^ min vars.toNat 64)) = ji := hji
    have hjiz : vars ≤ 64 → (IntKind.i64.wrap (1 * 2 ^ vars.toNat)) = ji := shl_small hji
    have hjiu : (IntKind.i64.wrap (2 ^ min vars.toNat 64)) = ji := by have h_ := hji_; rw [Int.one_mul] at h_; exact h_
    have hjiv : vars ≤ 64 → (IntKind.i64.wrap (2 ^ vars.toNat)) = ji := fun hle_ => by have h_ := hjiz hle_; rw [Int.one_mul] at h_; exact h_
    have hjiy : (wrap64 (1 * 2 ^ min vars.toNat 64)) = ji := (i64_w _).symm.trans hji_
    have hjix : vars ≤ 64 → (wrap64 (1 * 2 ^ vars.toNat)) = ji := fun h_ => (i64_w _).symm.trans (hjiz h_)
    rw [hji] at h
    obtain ⟨tt, A10, h1⟩ := Option.bind_eq_some_iff.mp h
    have A1 := Aside0.mk A10
    have A2 := Aside0.mk h1
    clear A10 h h1
    have eg := fun args w => enters_ (P := Try.prog) Try.func76 (by kernel_rfl) rfl args w
    go_enter Try.func63, Try.ntmps63
    go_wp2_with ((with_reducible refine gate_dst (N := 4) rfl ?_); refine boxq_ (N := 4) (cs := #[.int .i64 0, .slice none 0 0, .int .i64 0]) (t := 30) ?_; intro g4 hg w3 hbox hb; have n0_ := Aside0.mk (below_step (bq_) hb); have GE4 := Aside0.mk ((by rw [hg]; exact (below_size (bq_))) : w.heap.size ≤ g4); clear HB; have HB := n0_; have BK4 := Aside0.mk hbox; clear n0_ hb hbox hg)
    go_loopg [5, 9] k (fun kq v5 v9 w' => ∃ (o : List Bool) (x : Int), v9 = .int .i64 x ∧ Aside0 (impl_ByClauses.ml kq p ji o x = some tt) ∧ Aside0 (kq ≤ k) ∧ Aside0 (Kd.R Kd.bool 4 w' w.heap.size (fun _ => True) v5 o) ∧ Aside0 (w'.heap[g4]? = some (.cells #[.int .i64 0, .slice none 0 0, .int .i64 0] 30 (0, 0))) ∧ Aside0 (Below w.heap.size w w'))
    case atStart => exact ⟨[], (0), (by first | rfl | (simp; done) | (simp [*]; done)), A1, ⟨Nat.le_refl _⟩, ⟨Kd.R_nil _ _ _ _ _⟩, ⟨BK4.out⟩, ⟨bq_⟩⟩
    case round =>
      clear A1 HB BK4
      obtain ⟨o, x, rfl, HA, HK1, HO, BK4, HB⟩ := hrel
      cases gk with
      | zero => exact absurd HA.out (by simp [impl_ByClauses.ml])
      | succ k1 =>
        have H := HA.out
        clear HA
        simp only [impl_ByClauses.ml] at H
        by_cases c4 : x < ji
        · rw [if_pos c4] at H
          have c4b0 : decide (x < ji) = true := decide_eq_true c4
          clear c4
          obtain ⟨t, A70, H⟩ := Option.bind_eq_some_iff.mp H
          have A7 := Aside0.mk A70
          clear A70
          by_cases c12 : o.length < 17592186044416
          · rw [if_pos c12] at H
            have LMc12 := Aside0.mk c12
            clear c12
            have H' := Aside0.mk H
            clear H
            go_wp2_with (first | (go_at_call 76; refine (HP.out _ x t (bq_) A7.out).mono ?_; rintro e w6 ⟨rfl, hb⟩; have n0_ := Aside0.mk (below_step (bq_) hb); have n1_ := Aside0.mk (Kd.R_below (rq_ HO.out) hb); have n2_ := Aside0.mk (blk_below (bk_ BK4.out) hb); clear HB HO BK4; have HB := n0_; have HO := n1_; have BK4 := n2_; clear n0_ n1_ n2_ hb) | ((with_reducible refine gate_builtin (b := .append) (xs := #[.tmp 12, .tmp 16]) rfl ?_); at_builtin; refine Kd.R_append Kd.bool (w0 := w) w.heap.size rfl (.tmp 12) (.tmp 16) 34 4 (.bool false) 1 rfl Try.underlying34 info4 rfl (by decide) (by omega) u5 o t [.bool t] (fun _ => True) (fun _ => False) rfl rfl ?aP (fun _ hk => hk.elim) ?aF ?aO ?aB ?aS ?aL ?_; (case aP => exact rfl); (case aB => exact (bq_)); (case aF => exact (fun _ _ => trivial)); (case aO => exact (rq_ HO.out)); (case aS => exact (below_size (bq_))); (case aL => have := LMc12.out; omega); intro v121 w13 ho hb hg hat; have n2_ := Aside0.mk (blk_grown BK4.out hg (Kd.R_ne HO.out BK4.out (by decide))); have n0_ := Aside0.mk hb; have n1_ := Aside0.mk ho; clear HB HO BK4; have HB := n0_; have HO := n1_; have BK4 := n2_; clear n0_ n1_ n2_ ho hb hg hat))
            go_roundg k1
            case measure => have := HK1.out; omega
            case rel => exact ⟨_, (wrap64 (x + 1)), (by first | rfl | (simp; done) | (simp [*]; done)), H', ⟨by have := HK1.out; omega⟩, ⟨rq_ HO.out⟩, ⟨bk_ BK4.out⟩, ⟨bq_⟩⟩
          · rw [if_neg c12] at H
            exact absurd H (by simp)
        · rw [if_neg c4] at H
          have c4b0 : decide (x < ji) = false := decide_eq_false c4
          clear c4
          obtain rfl := Option.some.inj H
          clear H
          obtain ⟨At, ct, et⟩ := Kd.R_slice HO.out
          subst et
          go_wp2_with (go_at_call 84; refine (impl_diagram.calls k vars _ _ o r1 r2 r3 _ (by (with_reducible repeat (first | apply Kd.C_alloc | apply Kd.C_drewN | apply Kd.C_drew)); exact (Kd.R_reads' HO.out).2.2) (Kd.R_reads' HO.out).2.1 A2.out).mono ?_; rintro e w7 ⟨v1, rfl, ho, hb⟩; have NV := Aside0.mk (show v1.ownBlock ≠ some g4 from fun he => by have := Kd.R_base ho g4 he; have := blk_lt BK4.out; omega); have n0_ := Aside0.mk (blk_below BK4.out hb); have n1_ := Aside0.mk (Kd.R_lower ho (below_size (bq_))); have n2_ := Aside0.mk (below_step (bq_) hb); clear HB HO BK4; have BK4 := n0_; have HO := n1_; have HB := n2_; clear n0_ n1_ n2_ ho hb; obtain ⟨Ao, co, eo⟩ := Kd.R_slice HO.out; subst eo; have hcy0 := cq_ BK4.out 0 (.int .i64 0); have hcy1 := cq_ BK4.out 1 (.slice none 0 0); have hcy2 := cq_ BK4.out 2 (.int .i64 0); have hfy0 := blk_frozen BK4.out 0; have hfy1 := blk_frozen BK4.out 1; have hfy2 := blk_frozen BK4.out 2)
          refine bodyPost_ret (results_cell_row rfl _ _ g4 30 #[.int .i64 r1, (.slice Ao r2.length co), .int .i64 r3] (0, 0) _ rfl (blk_put (cs := #[.int .i64 r1, (.slice Ao r2.length co), .int .i64 0]) (cs' := #[.int .i64 r1, (.slice Ao r2.length co), .int .i64 r3]) (blk_put (cs := #[.int .i64 r1, .slice none 0 0, .int .i64 0]) (cs' := #[.int .i64 r1, (.slice Ao r2.length co), .int .i64 0]) (blk_put (cs := #[.int .i64 0, .slice none 0 0, .int .i64 0]) (cs' := #[.int .i64 r1, .slice none 0 0, .int .i64 0]) (BK4.out) 0 (.int .i64 r1) rfl) 1 ((.slice Ao r2.length co)) rfl) 2 (.int .i64 r3) rfl) Try.underlying30 rfl (by kernel_rfl)) rfl ?_
          exact ⟨_, by first | rfl | (simp; done) | (simp [*]; done), Kd.R_mono (Kd.R_far (p := ⟨g4, 2, none⟩) (Kd.R_far (p := ⟨g4, 1, none⟩) (Kd.R_far (p := ⟨g4, 0, none⟩) (impl_Diagram_build.flat (show Kd.R k75 75 w7 w.heap.size (fun _ => True) (.slice Ao r2.length co) r2 from HO.out) (ok' := fun k => k ≠ g4) (fun k hk _ => fun he => NV.out (by rw [hk, he]))) (fun k h => h) (.int .i64 r1)) (fun k h => h) ((.slice Ao r2.length co))) (fun k h => h) (.int .i64 r3)) (fun _ _ => trivial), below_set (j := 2) (v := (.int .i64 r3)) (below_set (j := 1) (v := ((.slice Ao r2.length co))) (below_set (j := 0) (v := (.int .i64 r1)) (HB.out) GE4.out) GE4.out) GE4.out⟩
  · rw [if_neg c0] at h
    exact absurd h (by simp)
def impl_ByClauses.f (k : Nat) (a0 : Int) (l0 : List (List Int)) : Option (Int × (List (S75)) × Int × Bool) := (impl_GoodClauses.f k a0 l0).bind fun g => if g = true then (if a0 > 6 then some (0, ([] : List (S75)), 0, false) else ((impl_ByClauses.mapf k (impl_ByClauses.pr k l0 a0) a0).bind fun x => some (x.1, x.2.1, x.2.2, true))) else some (0, ([] : List (S75)), 0, false)
set_option maxHeartbeats 8000000 in
set_option maxRecDepth 100000 in
theorem impl_ByClauses.calls (k : Nat) (a0 : Int) (A0 : Option Addr) (c0 : Nat) (l0 : List (List Int)) (r1 : Int) (r2 : List (S75)) (r3 : Int) (r4 : Bool) (w : World) (hr0 : Kd.C (Kd.slice 3 (Kd.int .i64)) w A0 l0.length l0) (hc0 : l0.length ≤ c0) (h : impl_ByClauses.f k a0 l0 = some (r1, r2, r3, r4)) :
    Calls Try.prog 36 #[.int .i64 a0, .slice A0 l0.length c0] w fun e w' => ∃ v1_ : Value, e = .returned (.tuple #[.agg #[.int .i64 r1, v1_, .int .i64 r3], .bool r4]) ∧ Kd.R k75 75 w' w.heap.size (fun _ => True) v1_ r2 ∧ Below w.heap.size w w' := by
  have hu30 := Try.underlying30
  have HR0 := Aside0.mk hr0
  have HC0 := Aside0.mk hc0
  have HB := Aside0.mk (Below.refl w.heap.size w)
  obtain ⟨g, A10, h1⟩ := Option.bind_eq_some_iff.mp h
  have AG := Aside0.mk A10
  clear hr0 hc0 A10 h
  by_cases c8 : g = true
  · subst c8
    rw [if_pos rfl] at h1
    by_cases c9 : a0 > 6
    · rw [if_pos c9] at h1
      have c9b : decide (a0 > 6) = true := decide_eq_true c9
      clear c9
      simp only [Option.some.injEq, Prod.mk.injEq] at h1
      obtain ⟨rfl, rfl, rfl, rfl⟩ := h1
      go_enter Try.func36, Try.ntmps36
      go_wp2_with (first | ((with_reducible refine gate_dst (N := 2) rfl ?_); refine boxq_ (N := 2) (cs := #[.int .i64 a0]) (t := 3) ?_; intro g1 hg w1 hbox hb; have GEg1 := Aside0.mk ((by rw [hg]; exact (below_size (bq_))) : w.heap.size ≤ g1); have n0_ := Aside0.mk (below_step (bq_) hb); clear HB; have HB := n0_; have BK1 := Aside0.mk hbox; clear n0_ hb hbox hg) | ((with_reducible refine gate_dst (N := 3) rfl ?_); refine boxq_ (N := 3) (cs := #[.slice A0 l0.length c0]) (t := 50) ?_; intro g2 hg w2 hbox hb; have GEg2 := Aside0.mk ((by rw [hg]; exact (below_size (bq_))) : w.heap.size ≤ g2); have NEg1g2 := Aside0.mk ((by rw [hg]; exact Nat.ne_of_lt (blk_lt BK1.out)) : g1 ≠ g2); have mBK1_ := Aside0.mk (blk_below BK1.out hb); have n0_ := Aside0.mk (below_step (bq_) hb); clear HB BK1; have HB := n0_; have BK1 := mBK1_; clear mBK1_; have BK2 := Aside0.mk hbox; clear n0_ hb hbox hg) | ((with_reducible refine gate_dst (N := 4) rfl ?_); refine boxq_ (N := 4) (cs := #[.int .i64 0, .slice none 0 0, .int .i64 0]) (t := 30) ?_; intro g3 hg w3 hbox hb; have GEg3 := Aside0.mk ((by rw [hg]; exact (below_size (bq_))) : w.heap.size ≤ g3); have NEg1g3 := Aside0.mk ((by rw [hg]; exact Nat.ne_of_lt (blk_lt BK1.out)) : g1 ≠ g3); have mBK1_ := Aside0.mk (blk_below BK1.out hb); have NEg2g3 := Aside0.mk ((by rw [hg]; exact Nat.ne_of_lt (blk_lt BK2.out)) : g2 ≠ g3); have mBK2_ := Aside0.mk (blk_below BK2.out hb); have n0_ := Aside0.mk (below_step (bq_) hb); clear HB BK1 BK2; have HB := n0_; have BK1 := mBK1_; clear mBK1_; have BK2 := mBK2_; clear mBK2_; have BR := Aside0.mk hbox; clear n0_ hb hbox hg; have hcv0 := cq_ BK1.out 0 (.int .i64 a0); have hcl0 := cq_ BK2.out 0 (.slice A0 l0.length c0); have hcy0 := cq_ BR.out 0 (.int .i64 0); have hcy1 := cq_ BR.out 1 (.slice none 0 0); have hcy2 := cq_ BR.out 2 (.int .i64 0); have hfy0 := blk_frozen BR.out 0; have hfy1 := blk_frozen BR.out 1; have hfy2 := blk_frozen BR.out 2) | (have t_ := AG; go_at_call 75; refine (impl_GoodClauses.calls k a0 A0 c0 l0 true _ (by (with_reducible repeat (first | apply Kd.C_alloc | apply Kd.C_drewN | apply Kd.C_drew)); exact Kd.C_below HR0.out (bq_)) HC0.out AG.out).mono ?_; rintro e w4 ⟨rfl, hb⟩; have mBK1_ := Aside0.mk (blk_below (bk_ BK1.out) hb); have mBK2_ := Aside0.mk (blk_below (bk_ BK2.out) hb); have mBR_ := Aside0.mk (blk_below (bk_ BR.out) hb); have n0_ := Aside0.mk (below_step (bq_) hb); clear HB BK1 BK2 BR; have HB := n0_; have BK1 := mBK1_; clear mBK1_; have BK2 := mBK2_; clear mBK2_; have BR := mBR_; clear mBR_; clear n0_ hb; clear AG t_; clear hcv0 hcl0 hcy0 hcy1 hcy2 hfy0 hfy1 hfy2; have hcv0 := cq_ BK1.out 0 (.int .i64 a0); have hcl0 := cq_ BK2.out 0 (.slice A0 l0.length c0); have hcy0 := cq_ BR.out 0 (.int .i64 0); have hcy1 := cq_ BR.out 1 (.slice none 0 0); have hcy2 := cq_ BR.out 2 (.int .i64 0); have hfy0 := blk_frozen BR.out 0; have hfy1 := blk_frozen BR.out 1; have hfy2 := blk_frozen BR.out 2))
      refine bodyPost_ret (results_ct rfl _ _ g3 30 #[.int .i64 0, .slice none 0 0, .int .i64 0] (0, 0) _ rfl (blk_put (cs := #[.int .i64 0, .slice none 0 0, .int .i64 0]) (cs' := #[.int .i64 0, .slice none 0 0, .int .i64 0]) (blk_put (cs := #[.int .i64 0, .slice none 0 0, .int .i64 0]) (cs' := #[.int .i64 0, .slice none 0 0, .int .i64 0]) (blk_put (cs := #[.int .i64 0, .slice none 0 0, .int .i64 0]) (cs' := #[.int .i64 0, .slice none 0 0, .int .i64 0]) ((bk_ BR.out)) 0 (.int .i64 0) rfl) 1 (.slice none 0 0) rfl) 2 (.int .i64 0) rfl) Try.underlying30 rfl (by kernel_rfl)) rfl ?_
      exact ⟨_, by first | rfl | (simp; done) | (simp [*]; done), Kd.R_nil _ _ _ _ _, below_set (j := 2) (v := (.int .i64 0)) (below_set (j := 1) (v := (.slice none 0 0)) (below_set (j := 0) (v := (.int .i64 0)) ((bq_)) GEg3.out) GEg3.out) GEg3.out⟩
    · rw [if_neg c9] at h1
      have c9b : decide (a0 > 6) = false := decide_eq_false c9
      clear c9
      obtain ⟨⟨x1, x2, x3⟩, A10, h2⟩ := Option.bind_eq_some_iff.mp h1
      have AM := Aside0.mk A10
      clear A10 h1
      simp only [Option.some.injEq, Prod.mk.injEq] at h2
      obtain ⟨rfl, rfl, rfl, rfl⟩ := h2
      go_enter Try.func36, Try.ntmps36
      go_wp2_with (first | ((with_reducible refine gate_dst (N := 2) rfl ?_); refine boxq_ (N := 2) (cs := #[.int .i64 a0]) (t := 3) ?_; intro g1 hg w1 hbox hb; have GEg1 := Aside0.mk ((by rw [hg]; exact (below_size (bq_))) : w.heap.size ≤ g1); have n0_ := Aside0.mk (below_step (bq_) hb); clear HB; have HB := n0_; have BK1 := Aside0.mk hbox; clear n0_ hb hbox hg) | ((with_reducible refine gate_dst (N := 3) rfl ?_); refine boxq_ (N := 3) (cs := #[.slice A0 l0.length c0]) (t := 50) ?_; intro g2 hg w2 hbox hb; have GEg2 := Aside0.mk ((by rw [hg]; exact (below_size (bq_))) : w.heap.size ≤ g2); have NEg1g2 := Aside0.mk ((by rw [hg]; exact Nat.ne_of_lt (blk_lt BK1.out)) : g1 ≠ g2); have mBK1_ := Aside0.mk (blk_below BK1.out hb); have n0_ := Aside0.mk (below_step (bq_) hb); clear HB BK1; have HB := n0_; have BK1 := mBK1_; clear mBK1_; have BK2 := Aside0.mk hbox; clear n0_ hb hbox hg) | ((with_reducible refine gate_dst (N := 4) rfl ?_); refine boxq_ (N := 4) (cs := #[.int .i64 0, .slice none 0 0, .int .i64 0]) (t := 30) ?_; intro g3 hg w3 hbox hb; have GEg3 := Aside0.mk ((by rw [hg]; exact (below_size (bq_))) : w.heap.size ≤ g3); have NEg1g3 := Aside0.mk ((by rw [hg]; exact Nat.ne_of_lt (blk_lt BK1.out)) : g1 ≠ g3); have mBK1_ := Aside0.mk (blk_below BK1.out hb); have NEg2g3 := Aside0.mk ((by rw [hg]; exact Nat.ne_of_lt (blk_lt BK2.out)) : g2 ≠ g3); have mBK2_ := Aside0.mk (blk_below BK2.out hb); have n0_ := Aside0.mk (below_step (bq_) hb); clear HB BK1 BK2; have HB := n0_; have BK1 := mBK1_; clear mBK1_; have BK2 := mBK2_; clear mBK2_; have BR := Aside0.mk hbox; clear n0_ hb hbox hg; have hcv0 := cq_ BK1.out 0 (.int .i64 a0); have hcl0 := cq_ BK2.out 0 (.slice A0 l0.length c0); have hcy0 := cq_ BR.out 0 (.int .i64 0); have hcy1 := cq_ BR.out 1 (.slice none 0 0); have hcy2 := cq_ BR.out 2 (.int .i64 0); have hfy0 := blk_frozen BR.out 0; have hfy1 := blk_frozen BR.out 1; have hfy2 := blk_frozen BR.out 2) | (have t_ := AG; go_at_call 75; refine (impl_GoodClauses.calls k a0 A0 c0 l0 true _ (by (with_reducible repeat (first | apply Kd.C_alloc | apply Kd.C_drewN | apply Kd.C_drew)); exact Kd.C_below HR0.out (bq_)) HC0.out AG.out).mono ?_; rintro e w4 ⟨rfl, hb⟩; have mBK1_ := Aside0.mk (blk_below (bk_ BK1.out) hb); have mBK2_ := Aside0.mk (blk_below (bk_ BK2.out) hb); have mBR_ := Aside0.mk (blk_below (bk_ BR.out) hb); have n0_ := Aside0.mk (below_step (bq_) hb); clear HB BK1 BK2 BR; have HB := n0_; have BK1 := mBK1_; clear mBK1_; have BK2 := mBK2_; clear mBK2_; have BR := mBR_; clear mBR_; clear n0_ hb; clear AG t_; clear hcv0 hcl0 hcy0 hcy1 hcy2 hfy0 hfy1 hfy2; have hcv0 := cq_ BK1.out 0 (.int .i64 a0); have hcl0 := cq_ BK2.out 0 (.slice A0 l0.length c0); have hcy0 := cq_ BR.out 0 (.int .i64 0); have hcy1 := cq_ BR.out 1 (.slice none 0 0); have hcy2 := cq_ BR.out 2 (.int .i64 0); have hfy0 := blk_frozen BR.out 0; have hfy1 := blk_frozen BR.out 1; have hfy2 := blk_frozen BR.out 2) | (go_at_call 63; refine (impl_ByClauses.map_calls k g2 g1 (impl_ByClauses.pr k l0 a0) a0 x1 x2 x3 _ (fun W x v hbW hv => impl_ByClauses.pr_calls k g2 g1 A0 c0 l0 a0 x v W (blk_below (bk_ BK2.out) hbW) (blk_below (bk_ BK1.out) hbW) (Kd.C_below (Kd.C_below HR0.out (bq_)) hbW) HC0.out hv) AM.out).mono ?_; rintro e w7 ⟨v1, rfl, ho, hb⟩; have NV := Aside0.mk (show v1.ownBlock ≠ some g3 from fun he => by have := Kd.R_base ho g3 he; have := blk_lt (show w4.heap[g3]? = _ from bk_ BR.out); omega); have n0_ := Aside0.mk (blk_below (bk_ BR.out) hb); have n1_ := Aside0.mk (Kd.R_lower ho (below_size (bq_))); have n2_ := Aside0.mk (below_step (bq_) hb); clear HB BR; have BR := n0_; have HO := n1_; have HB := n2_; clear n0_ n1_ n2_ ho hb; obtain ⟨Ao, co, eo⟩ := Kd.R_slice HO.out; subst eo; clear hcy0 hcy1 hcy2 hfy0 hfy1 hfy2; have hcy0 := cq_ BR.out 0 (.int .i64 0); have hcy1 := cq_ BR.out 1 (.slice none 0 0); have hcy2 := cq_ BR.out 2 (.int .i64 0); have hfy0 := blk_frozen BR.out 0; have hfy1 := blk_frozen BR.out 1; have hfy2 := blk_frozen BR.out 2))
      refine bodyPost_ret (results_ct rfl _ _ g3 30 #[.int .i64 x1, (.slice Ao x2.length co), .int .i64 x3] (0, 0) _ rfl (blk_put (cs := #[.int .i64 x1, (.slice Ao x2.length co), .int .i64 0]) (cs' := #[.int .i64 x1, (.slice Ao x2.length co), .int .i64 x3]) (blk_put (cs := #[.int .i64 x1, .slice none 0 0, .int .i64 0]) (cs' := #[.int .i64 x1, (.slice Ao x2.length co), .int .i64 0]) (blk_put (cs := #[.int .i64 0, .slice none 0 0, .int .i64 0]) (cs' := #[.int .i64 x1, .slice none 0 0, .int .i64 0]) (BR.out) 0 (.int .i64 x1) rfl) 1 ((.slice Ao x2.length co)) rfl) 2 (.int .i64 x3) rfl) Try.underlying30 rfl (by kernel_rfl)) rfl ?_
      exact ⟨_, by first | rfl | (simp; done) | (simp [*]; done), Kd.R_mono (Kd.R_far (p := ⟨g3, 2, none⟩) (Kd.R_far (p := ⟨g3, 1, none⟩) (Kd.R_far (p := ⟨g3, 0, none⟩) (impl_Diagram_build.flat (show Kd.R k75 75 w7 w.heap.size (fun _ => True) (.slice Ao x2.length co) x2 from HO.out) (ok' := fun k => k ≠ g3) (fun k hk _ => fun he => NV.out (by rw [hk, he]))) (fun k h => h) (.int .i64 x1)) (fun k h => h) ((.slice Ao x2.length co))) (fun k h => h) (.int .i64 x3)) (fun _ _ => trivial), below_set (j := 2) (v := (.int .i64 x3)) (below_set (j := 1) (v := ((.slice Ao x2.length co))) (below_set (j := 0) (v := (.int .i64 x1)) (HB.out) GEg3.out) GEg3.out) GEg3.out⟩
  · replace c8 := Bool.eq_false_iff.mpr c8
    subst c8
    rw [if_neg (by simp)] at h1
    simp only [Option.some.injEq, Prod.mk.injEq] at h1
    obtain ⟨rfl, rfl, rfl, rfl⟩ := h1
    go_enter Try.func36, Try.ntmps36
    go_wp2_with (first | ((with_reducible refine gate_dst (N := 2) rfl ?_); refine boxq_ (N := 2) (cs := #[.int .i64 a0]) (t := 3) ?_; intro g1 hg w1 hbox hb; have GEg1 := Aside0.mk ((by rw [hg]; exact (below_size (bq_))) : w.heap.size ≤ g1); have n0_ := Aside0.mk (below_step (bq_) hb); clear HB; have HB := n0_; have BK1 := Aside0.mk hbox; clear n0_ hb hbox hg) | ((with_reducible refine gate_dst (N := 3) rfl ?_); refine boxq_ (N := 3) (cs := #[.slice A0 l0.length c0]) (t := 50) ?_; intro g2 hg w2 hbox hb; have GEg2 := Aside0.mk ((by rw [hg]; exact (below_size (bq_))) : w.heap.size ≤ g2); have NEg1g2 := Aside0.mk ((by rw [hg]; exact Nat.ne_of_lt (blk_lt BK1.out)) : g1 ≠ g2); have mBK1_ := Aside0.mk (blk_below BK1.out hb); have n0_ := Aside0.mk (below_step (bq_) hb); clear HB BK1; have HB := n0_; have BK1 := mBK1_; clear mBK1_; have BK2 := Aside0.mk hbox; clear n0_ hb hbox hg) | ((with_reducible refine gate_dst (N := 4) rfl ?_); refine boxq_ (N := 4) (cs := #[.int .i64 0, .slice none 0 0, .int .i64 0]) (t := 30) ?_; intro g3 hg w3 hbox hb; have GEg3 := Aside0.mk ((by rw [hg]; exact (below_size (bq_))) : w.heap.size ≤ g3); have NEg1g3 := Aside0.mk ((by rw [hg]; exact Nat.ne_of_lt (blk_lt BK1.out)) : g1 ≠ g3); have mBK1_ := Aside0.mk (blk_below BK1.out hb); have NEg2g3 := Aside0.mk ((by rw [hg]; exact Nat.ne_of_lt (blk_lt BK2.out)) : g2 ≠ g3); have mBK2_ := Aside0.mk (blk_below BK2.out hb); have n0_ := Aside0.mk (below_step (bq_) hb); clear HB BK1 BK2; have HB := n0_; have BK1 := mBK1_; clear mBK1_; have BK2 := mBK2_; clear mBK2_; have BR := Aside0.mk hbox; clear n0_ hb hbox hg; have hcv0 := cq_ BK1.out 0 (.int .i64 a0); have hcl0 := cq_ BK2.out 0 (.slice A0 l0.length c0); have hcy0 := cq_ BR.out 0 (.int .i64 0); have hcy1 := cq_ BR.out 1 (.slice none 0 0); have hcy2 := cq_ BR.out 2 (.int .i64 0); have hfy0 := blk_frozen BR.out 0; have hfy1 := blk_frozen BR.out 1; have hfy2 := blk_frozen BR.out 2) | (have t_ := AG; go_at_call 75; refine (impl_GoodClauses.calls k a0 A0 c0 l0 false _ (by (with_reducible repeat (first | apply Kd.C_alloc | apply Kd.C_drewN | apply Kd.C_drew)); exact Kd.C_below HR0.out (bq_)) HC0.out AG.out).mono ?_; rintro e w4 ⟨rfl, hb⟩; have mBK1_ := Aside0.mk (blk_below (bk_ BK1.out) hb); have mBK2_ := Aside0.mk (blk_below (bk_ BK2.out) hb); have mBR_ := Aside0.mk (blk_below (bk_ BR.out) hb); have n0_ := Aside0.mk (below_step (bq_) hb); clear HB BK1 BK2 BR; have HB := n0_; have BK1 := mBK1_; clear mBK1_; have BK2 := mBK2_; clear mBK2_; have BR := mBR_; clear mBR_; clear n0_ hb; clear AG t_; clear hcv0 hcl0 hcy0 hcy1 hcy2 hfy0 hfy1 hfy2; have hcv0 := cq_ BK1.out 0 (.int .i64 a0); have hcl0 := cq_ BK2.out 0 (.slice A0 l0.length c0); have hcy0 := cq_ BR.out 0 (.int .i64 0); have hcy1 := cq_ BR.out 1 (.slice none 0 0); have hcy2 := cq_ BR.out 2 (.int .i64 0); have hfy0 := blk_frozen BR.out 0; have hfy1 := blk_frozen BR.out 1; have hfy2 := blk_frozen BR.out 2))
    refine bodyPost_ret (results_ct rfl _ _ g3 30 #[.int .i64 0, .slice none 0 0, .int .i64 0] (0, 0) _ rfl (blk_put (cs := #[.int .i64 0, .slice none 0 0, .int .i64 0]) (cs' := #[.int .i64 0, .slice none 0 0, .int .i64 0]) (blk_put (cs := #[.int .i64 0, .slice none 0 0, .int .i64 0]) (cs' := #[.int .i64 0, .slice none 0 0, .int .i64 0]) (blk_put (cs := #[.int .i64 0, .slice none 0 0, .int .i64 0]) (cs' := #[.int .i64 0, .slice none 0 0, .int .i64 0]) ((bk_ BR.out)) 0 (.int .i64 0) rfl) 1 (.slice none 0 0) rfl) 2 (.int .i64 0) rfl) Try.underlying30 rfl (by kernel_rfl)) rfl ?_
    exact ⟨_, by first | rfl | (simp; done) | (simp [*]; done), Kd.R_nil _ _ _ _ _, below_set (j := 2) (v := (.int .i64 0)) (below_set (j := 1) (v := (.slice none 0 0)) (below_set (j := 0) (v := (.int .i64 0)) ((bq_)) GEg3.out) GEg3.out) GEg3.out⟩
def laws_eqIntS.l0 : Nat → List Int → List Int → Int → Option (Bool)
  | 0, _, _, _ => none
  | k + 1, x0, x1, x5 => if x5 < (x0.length : Int) then (if 0 ≤ x5 then (if x5 < (x1.length : Int) then (if (rd x0 x5) = (rd x1 x5) then (laws_eqIntS.l0 k x0 x1 (wrap64 (x5 + 1))) else (some false)) else (none)) else (none)) else (some true)
def laws_eqIntS.f (k : Nat) (l0 : List Int) (l1 : List Int) : Option (Bool) := if (l0.length : Int) = (l1.length : Int) then (laws_eqIntS.l0 k l0 l1 0) else (some false)
set_option maxHeartbeats 8000000 in
set_option maxRecDepth 100000 in
theorem laws_eqIntS.calls (k : Nat) (A0 : Option Addr) (c0 : Nat) (l0 : List Int) (A1 : Option Addr) (c1 : Nat) (l1 : List Int) (r : Bool) (w : World) (hr0 : Kd.C (Kd.int .i64) w A0 l0.length l0) (hc0 : l0.length ≤ c0) (hr1 : Kd.C (Kd.int .i64) w A1 l1.length l1) (hc1 : l1.length ≤ c1) (h : laws_eqIntS.f k l0 l1 = some r) :
    Calls Try.prog 79 #[.slice A0 l0.length c0, .slice A1 l1.length c1] w fun e w' => e = .returned (.bool r) ∧ Drawn0 w w' := by
  have HR0 := Aside0.mk hr0
  have HC0 := Aside0.mk hc0
  clear hr0 hc0
  have HR1 := Aside0.mk hr1
  have HC1 := Aside0.mk hc1
  clear hr1 hc1
  have H : (if (l0.length : Int) = (l1.length : Int) then (laws_eqIntS.l0 k l0 l1 0) else (some false)) = some r := h
  clear h
  by_cases c3 : (l0.length : Int) = (l1.length : Int)
  · rw [if_pos c3] at H
    have c3b0 : ((l0.length : Int) == (l1.length : Int)) = true := beq_iff_eq.mpr c3
    have c3b1 : ((l0.length : Int) != (l1.length : Int)) = false := bne_eq_false_iff_eq.mpr c3
    have c3b2 : (l0.length == l1.length) = true := by first | simpa using c3 | (simp at c3 ⊢; omega)
    clear c3
    have H' := Aside0.mk H
    clear H
    go_enter Try.func79, Try.ntmps79
    go_wp2
    repeat (go_quiet (fail); try go_wp2)
    go_loopg [5] k (fun kq v5 w' => ∃ (x5_1 : Int), v5 = .int .i64 x5_1 ∧ Aside0 (laws_eqIntS.l0 kq l0 l1 x5_1 = some r) ∧ Aside0 (kq ≤ k) ∧ Drawn0 w w')
    case atStart => exact ⟨(0), (by first | rfl | (simp; done) | (simp [*]; done)), H', ⟨Nat.le_refl _⟩, by repeat (first | exact Drawn0.refl _ | apply Drawn0.step)⟩
    case round =>
      clear H'
      try clear c1
      try clear p2
      try clear c3
      try clear c3b0
      try clear c3b1
      try clear c3b2
      obtain ⟨x5_1, rfl, HA, HK1, ⟨m1, rfl⟩⟩ := hrel
      cases gk with
      | zero => exact absurd HA.out (by simp [laws_eqIntS.l0])
      | succ k1 =>
        have H := HA.out
        clear HA
        simp only [laws_eqIntS.l0] at H
        by_cases c4 : x5_1 < (l0.length : Int)
        · rw [if_pos c4] at H
          have c4b0 : decide (x5_1 < (l0.length : Int)) = true := decide_eq_true c4
          clear c4
          by_cases c5 : 0 ≤ x5_1
          · rw [if_pos c5] at H
            have c5b0 : decide (0 ≤ x5_1) = true := decide_eq_true c5
            clear c5
            by_cases c6 : x5_1 < (l1.length : Int)
            · rw [if_pos c6] at H
              have c6b0 : decide (x5_1 < (l1.length : Int)) = true := decide_eq_true c6
              clear c6
              by_cases c7 : (rd l0 x5_1) = (rd l1 x5_1)
              · rw [if_pos c7] at H
                have c7b0 : ((rd l0 x5_1) == (rd l1 x5_1)) = true := beq_iff_eq.mpr c7
                have c7b1 : ((rd l0 x5_1) != (rd l1 x5_1)) = false := bne_eq_false_iff_eq.mpr c7
                clear c7
                have H' := Aside0.mk H
                clear H
                have p185 : 0 ≤ (x5_1 : Int) := of_decide_eq_true (by first | (with_reducible assumption) | assumption)
                have q185 : x5_1 < (l0.length : Int) := of_decide_eq_true (by first | (with_reducible assumption) | assumption)
                obtain ⟨ad185, e185, hx185_0⟩ := Kd.at_int HR0.out x5_1 p185 q185
                cases e185
                replace p185 := eq_true p185
                replace q185 := eq_true q185
                have p186 : 0 ≤ (x5_1 : Int) := of_decide_eq_true (by first | (with_reducible assumption) | assumption)
                have q186 : x5_1 < (l1.length : Int) := of_decide_eq_true (by first | (with_reducible assumption) | assumption)
                obtain ⟨ad186, e186, hx186_0⟩ := Kd.at_int HR1.out x5_1 p186 q186
                cases e186
                replace p186 := eq_true p186
                replace q186 := eq_true q186
                go_wp2
                repeat (go_quiet (fail); try go_wp2)
                go_roundg k1
                case measure => have := HK1.out; omega
                case rel => exact ⟨(wrap64 (x5_1 + 1)), (by first | rfl | (simp; done) | (simp [*]; done)), H', ⟨by have := HK1.out; omega⟩, by repeat (first | exact Drawn0.refl _ | apply Drawn0.step)⟩
              · rw [if_neg c7] at H
                have c7b0 : ((rd l0 x5_1) == (rd l1 x5_1)) = false := beq_eq_false_iff_ne.mpr c7
                have c7b1 : ((rd l0 x5_1) != (rd l1 x5_1)) = true := bne_iff_ne.mpr c7
                obtain rfl := Option.some.inj H
                have p185 : 0 ≤ (x5_1 : Int) := of_decide_eq_true (by first | (with_reducible assumption) | assumption)
                have q185 : x5_1 < (l0.length : Int) := of_decide_eq_true (by first | (with_reducible assumption) | assumption)
                obtain ⟨ad185, e185, hx185_0⟩ := Kd.at_int HR0.out x5_1 p185 q185
                cases e185
                replace p185 := eq_true p185
                replace q185 := eq_true q185
                have p186 : 0 ≤ (x5_1 : Int) := of_decide_eq_true (by first | (with_reducible assumption) | assumption)
                have q186 : x5_1 < (l1.length : Int) := of_decide_eq_true (by first | (with_reducible assumption) | assumption)
                obtain ⟨ad186, e186, hx186_0⟩ := Kd.at_int HR1.out x5_1 p186 q186
                cases e186
                replace p186 := eq_true p186
                replace q186 := eq_true q186
                go_wp2
                repeat (go_quiet (fail); try go_wp2)
                go_ret
                exact ⟨by first | rfl | (simp; done) | (simp [*]; done), by repeat (first | exact Drawn0.refl _ | apply Drawn0.step)⟩
            · rw [if_neg c6] at H
              exact absurd H (by simp)
          · rw [if_neg c5] at H
            exact absurd H (by simp)
        · rw [if_neg c4] at H
          have c4b0 : decide (x5_1 < (l0.length : Int)) = false := decide_eq_false c4
          clear c4
          obtain rfl := Option.some.inj H
          go_wp2
          repeat (go_quiet (fail); try go_wp2)
          go_ret
          exact ⟨by first | rfl | (simp; done) | (simp [*]; done), by repeat (first | exact Drawn0.refl _ | apply Drawn0.step)⟩
  · rw [if_neg c3] at H
    have c3b0 : ((l0.length : Int) == (l1.length : Int)) = false := beq_eq_false_iff_ne.mpr c3
    have c3b1 : ((l0.length : Int) != (l1.length : Int)) = true := bne_iff_ne.mpr c3
    have c3b2 : (l0.length == l1.length) = false := by first | simpa using c3 | (simp at c3 ⊢; omega)
    obtain rfl := Option.some.inj H
    go_enter Try.func79, Try.ntmps79
    go_wp2
    repeat (go_quiet (fail); try go_wp2)
    go_ret
    exact ⟨by first | rfl | (simp; done) | (simp [*]; done), by repeat (first | exact Drawn0.refl _ | apply Drawn0.step)⟩
def laws_eqIntSS.l0 : Nat → List (List Int) → List (List Int) → Int → Option (Bool)
  | 0, _, _, _ => none
  | k + 1, x0, x1, x5 => if x5 < (x0.length : Int) then (if 0 ≤ x5 then (if x5 < (x1.length : Int) then ((laws_eqIntS.f k (rd_L2 x0 x5) (rd_L2 x1 x5)).bind fun t189 => (if t189 = true then (laws_eqIntSS.l0 k x0 x1 (wrap64 (x5 + 1))) else (some false))) else (none)) else (none)) else (some true)
def laws_eqIntSS.f (k : Nat) (l0 : List (List Int)) (l1 : List (List Int)) : Option (Bool) := if (l0.length : Int) = (l1.length : Int) then (laws_eqIntSS.l0 k l0 l1 0) else (some false)
set_option maxHeartbeats 8000000 in
set_option maxRecDepth 100000 in
theorem laws_eqIntSS.calls (k : Nat) (A0 : Option Addr) (c0 : Nat) (l0 : List (List Int)) (A1 : Option Addr) (c1 : Nat) (l1 : List (List Int)) (r : Bool) (w : World) (hr0 : Kd.C (Kd.slice 3 (Kd.int .i64)) w A0 l0.length l0) (hc0 : l0.length ≤ c0) (hr1 : Kd.C (Kd.slice 3 (Kd.int .i64)) w A1 l1.length l1) (hc1 : l1.length ≤ c1) (h : laws_eqIntSS.f k l0 l1 = some r) :
    Calls Try.prog 37 #[.slice A0 l0.length c0, .slice A1 l1.length c1] w fun e w' => e = .returned (.bool r) ∧ Drawn0 w w' := by
  have HR0 := Aside0.mk hr0
  have HC0 := Aside0.mk hc0
  clear hr0 hc0
  have HR1 := Aside0.mk hr1
  have HC1 := Aside0.mk hc1
  clear hr1 hc1
  have H : (if (l0.length : Int) = (l1.length : Int) then (laws_eqIntSS.l0 k l0 l1 0) else (some false)) = some r := h
  clear h
  by_cases c3 : (l0.length : Int) = (l1.length : Int)
  · rw [if_pos c3] at H
    have c3b0 : ((l0.length : Int) == (l1.length : Int)) = true := beq_iff_eq.mpr c3
    have c3b1 : ((l0.length : Int) != (l1.length : Int)) = false := bne_eq_false_iff_eq.mpr c3
    have c3b2 : (l0.length == l1.length) = true := by first | simpa using c3 | (simp at c3 ⊢; omega)
    clear c3
    have H' := Aside0.mk H
    clear H
    go_enter Try.func37, Try.ntmps37
    go_wp2
    repeat (go_quiet (fail); try go_wp2)
    go_loopg [5] k (fun kq v5 w' => ∃ (x5_1 : Int), v5 = .int .i64 x5_1 ∧ Aside0 (laws_eqIntSS.l0 kq l0 l1 x5_1 = some r) ∧ Aside0 (kq ≤ k) ∧ Drawn0 w w')
    case atStart => exact ⟨(0), (by first | rfl | (simp; done) | (simp [*]; done)), H', ⟨Nat.le_refl _⟩, by repeat (first | exact Drawn0.refl _ | apply Drawn0.step)⟩
    case round =>
      clear H'
      try clear c1
      try clear p2
      try clear c3
      try clear c3b0
      try clear c3b1
      try clear c3b2
      obtain ⟨x5_1, rfl, HA, HK1, ⟨m1, rfl⟩⟩ := hrel
      cases gk with
      | zero => exact absurd HA.out (by simp [laws_eqIntSS.l0])
      | succ k1 =>
        have H := HA.out
        clear HA
        simp only [laws_eqIntSS.l0] at H
        by_cases c4 : x5_1 < (l0.length : Int)
        · rw [if_pos c4] at H
          have c4b0 : decide (x5_1 < (l0.length : Int)) = true := decide_eq_true c4
          clear c4
          by_cases c5 : 0 ≤ x5_1
          · rw [if_pos c5] at H
            have c5b0 : decide (0 ≤ x5_1) = true := decide_eq_true c5
            clear c5
            by_cases c6 : x5_1 < (l1.length : Int)
            · rw [if_pos c6] at H
              have c6b0 : decide (x5_1 < (l1.length : Int)) = true := decide_eq_true c6
              clear c6
              replace H := Option.bind_eq_some_iff.mp H
              obtain ⟨t189, A70, H⟩ := H
              replace H : (if t189 = true then (laws_eqIntSS.l0 k1 l0 l1 (wrap64 (x5_1 + 1))) else (some false)) = some r := H
              have A7 := Aside0.mk A70
              clear A70
              by_cases c8 : t189 = true
              · subst c8
                have H1 : (laws_eqIntSS.l0 k1 l0 l1 (wrap64 (x5_1 + 1))) = some r := by rw [if_pos rfl] at H; exact H
                clear H
                have H := H1
                clear H1
                have H' := Aside0.mk H
                clear H
                have p187 : 0 ≤ (x5_1 : Int) := of_decide_eq_true (by first | (with_reducible assumption) | assumption)
                have q187 : x5_1 < (l0.length : Int) := of_decide_eq_true (by first | (with_reducible assumption) | assumption)
                obtain ⟨ad187, A187_0, c187_0, e187, hx187_0, hl187_0, hi187_0⟩ := at_L2 HR0.out x5_1 p187 q187
                cases e187
                have HR187_0 := Aside0.mk hi187_0
                have HC187_0 := Aside0.mk hl187_0
                clear hi187_0 hl187_0
                replace p187 := eq_true p187
                replace q187 := eq_true q187
                have p188 : 0 ≤ (x5_1 : Int) := of_decide_eq_true (by first | (with_reducible assumption) | assumption)
                have q188 : x5_1 < (l1.length : Int) := of_decide_eq_true (by first | (with_reducible assumption) | assumption)
                obtain ⟨ad188, A188_0, c188_0, e188, hx188_0, hl188_0, hi188_0⟩ := at_L2 HR1.out x5_1 p188 q188
                cases e188
                have HR188_0 := Aside0.mk hi188_0
                have HC188_0 := Aside0.mk hl188_0
                clear hi188_0 hl188_0
                replace p188 := eq_true p188
                replace q188 := eq_true q188
                go_wp2_with (first | (go_at_call 79; (with_reducible refine (laws_eqIntS.calls k1 _ _ (rd_L2 l0 x5_1) _ _ (rd_L2 l1 x5_1) true _ ?side1 ?side2 ?side3 ?side4 A7.out).mono ?_); (case side1 => repeat (first | exact HR187_0.out | (with_reducible refine Kd.C_alloc ?_ _) | (with_reducible refine Kd.C_drewN ?_ _) | (with_reducible refine Kd.C_drew ?_))); (case side2 => exact HC187_0.out); (case side3 => repeat (first | exact HR188_0.out | (with_reducible refine Kd.C_alloc ?_ _) | (with_reducible refine Kd.C_drewN ?_ _) | (with_reducible refine Kd.C_drew ?_))); (case side4 => exact HC188_0.out); rintro e w' ⟨rfl, ⟨nd, rfl⟩⟩; (try first | exact ⟨rfl, _, World.drewN_drewN _ _ _⟩ | exact ⟨rfl, _, Eq.trans (World.drewN_drewN _ _ _) (congrArg (World.drewN _) (Nat.add_assoc _ _ _))⟩)))
                repeat (go_quiet (first | (go_at_call 79; (with_reducible refine (laws_eqIntS.calls k1 _ _ (rd_L2 l0 x5_1) _ _ (rd_L2 l1 x5_1) true _ ?side1 ?side2 ?side3 ?side4 A7.out).mono ?_); (case side1 => repeat (first | exact HR187_0.out | (with_reducible refine Kd.C_alloc ?_ _) | (with_reducible refine Kd.C_drewN ?_ _) | (with_reducible refine Kd.C_drew ?_))); (case side2 => exact HC187_0.out); (case side3 => repeat (first | exact HR188_0.out | (with_reducible refine Kd.C_alloc ?_ _) | (with_reducible refine Kd.C_drewN ?_ _) | (with_reducible refine Kd.C_drew ?_))); (case side4 => exact HC188_0.out); rintro e w' ⟨rfl, ⟨nd, rfl⟩⟩; (try first | exact ⟨rfl, _, World.drewN_drewN _ _ _⟩ | exact ⟨rfl, _, Eq.trans (World.drewN_drewN _ _ _) (congrArg (World.drewN _) (Nat.add_assoc _ _ _))⟩))); try go_wp2_with (first | (go_at_call 79; (with_reducible refine (laws_eqIntS.calls k1 _ _ (rd_L2 l0 x5_1) _ _ (rd_L2 l1 x5_1) true _ ?side1 ?side2 ?side3 ?side4 A7.out).mono ?_); (case side1 => repeat (first | exact HR187_0.out | (with_reducible refine Kd.C_alloc ?_ _) | (with_reducible refine Kd.C_drewN ?_ _) | (with_reducible refine Kd.C_drew ?_))); (case side2 => exact HC187_0.out); (case side3 => repeat (first | exact HR188_0.out | (with_reducible refine Kd.C_alloc ?_ _) | (with_reducible refine Kd.C_drewN ?_ _) | (with_reducible refine Kd.C_drew ?_))); (case side4 => exact HC188_0.out); rintro e w' ⟨rfl, ⟨nd, rfl⟩⟩; (try first | exact ⟨rfl, _, World.drewN_drewN _ _ _⟩ | exact ⟨rfl, _, Eq.trans (World.drewN_drewN _ _ _) (congrArg (World.drewN _) (Nat.add_assoc _ _ _))⟩))))
                go_roundg k1
                case measure => have := HK1.out; omega
                case rel => exact ⟨(wrap64 (x5_1 + 1)), (by first | rfl | (simp; done) | (simp [*]; done)), H', ⟨by have := HK1.out; omega⟩, by repeat (first | exact Drawn0.refl _ | apply Drawn0.step)⟩
              · replace c8 := Bool.eq_false_iff.mpr c8
                subst c8
                have H1 : (some false) = some r := by rw [if_neg (show ¬ (false = true) by decide)] at H; exact H
                clear H
                have H := H1
                clear H1
                obtain rfl := Option.some.inj H
                have p187 : 0 ≤ (x5_1 : Int) := of_decide_eq_true (by first | (with_reducible assumption) | assumption)
                have q187 : x5_1 < (l0.length : Int) := of_decide_eq_true (by first | (with_reducible assumption) | assumption)
                obtain ⟨ad187, A187_0, c187_0, e187, hx187_0, hl187_0, hi187_0⟩ := at_L2 HR0.out x5_1 p187 q187
                cases e187
                have HR187_0 := Aside0.mk hi187_0
                have HC187_0 := Aside0.mk hl187_0
                clear hi187_0 hl187_0
                replace p187 := eq_true p187
                replace q187 := eq_true q187
                have p188 : 0 ≤ (x5_1 : Int) := of_decide_eq_true (by first | (with_reducible assumption) | assumption)
                have q188 : x5_1 < (l1.length : Int) := of_decide_eq_true (by first | (with_reducible assumption) | assumption)
                obtain ⟨ad188, A188_0, c188_0, e188, hx188_0, hl188_0, hi188_0⟩ := at_L2 HR1.out x5_1 p188 q188
                cases e188
                have HR188_0 := Aside0.mk hi188_0
                have HC188_0 := Aside0.mk hl188_0
                clear hi188_0 hl188_0
                replace p188 := eq_true p188
                replace q188 := eq_true q188
                go_wp2_with (first | (go_at_call 79; (with_reducible refine (laws_eqIntS.calls k1 _ _ (rd_L2 l0 x5_1) _ _ (rd_L2 l1 x5_1) false _ ?side1 ?side2 ?side3 ?side4 A7.out).mono ?_); (case side1 => repeat (first | exact HR187_0.out | (with_reducible refine Kd.C_alloc ?_ _) | (with_reducible refine Kd.C_drewN ?_ _) | (with_reducible refine Kd.C_drew ?_))); (case side2 => exact HC187_0.out); (case side3 => repeat (first | exact HR188_0.out | (with_reducible refine Kd.C_alloc ?_ _) | (with_reducible refine Kd.C_drewN ?_ _) | (with_reducible refine Kd.C_drew ?_))); (case side4 => exact HC188_0.out); rintro e w' ⟨rfl, ⟨nd, rfl⟩⟩; (try first | exact ⟨rfl, _, World.drewN_drewN _ _ _⟩ | exact ⟨rfl, _, Eq.trans (World.drewN_drewN _ _ _) (congrArg (World.drewN _) (Nat.add_assoc _ _ _))⟩)))
                repeat (go_quiet (first | (go_at_call 79; (with_reducible refine (laws_eqIntS.calls k1 _ _ (rd_L2 l0 x5_1) _ _ (rd_L2 l1 x5_1) false _ ?side1 ?side2 ?side3 ?side4 A7.out).mono ?_); (case side1 => repeat (first | exact HR187_0.out | (with_reducible refine Kd.C_alloc ?_ _) | (with_reducible refine Kd.C_drewN ?_ _) | (with_reducible refine Kd.C_drew ?_))); (case side2 => exact HC187_0.out); (case side3 => repeat (first | exact HR188_0.out | (with_reducible refine Kd.C_alloc ?_ _) | (with_reducible refine Kd.C_drewN ?_ _) | (with_reducible refine Kd.C_drew ?_))); (case side4 => exact HC188_0.out); rintro e w' ⟨rfl, ⟨nd, rfl⟩⟩; (try first | exact ⟨rfl, _, World.drewN_drewN _ _ _⟩ | exact ⟨rfl, _, Eq.trans (World.drewN_drewN _ _ _) (congrArg (World.drewN _) (Nat.add_assoc _ _ _))⟩))); try go_wp2_with (first | (go_at_call 79; (with_reducible refine (laws_eqIntS.calls k1 _ _ (rd_L2 l0 x5_1) _ _ (rd_L2 l1 x5_1) false _ ?side1 ?side2 ?side3 ?side4 A7.out).mono ?_); (case side1 => repeat (first | exact HR187_0.out | (with_reducible refine Kd.C_alloc ?_ _) | (with_reducible refine Kd.C_drewN ?_ _) | (with_reducible refine Kd.C_drew ?_))); (case side2 => exact HC187_0.out); (case side3 => repeat (first | exact HR188_0.out | (with_reducible refine Kd.C_alloc ?_ _) | (with_reducible refine Kd.C_drewN ?_ _) | (with_reducible refine Kd.C_drew ?_))); (case side4 => exact HC188_0.out); rintro e w' ⟨rfl, ⟨nd, rfl⟩⟩; (try first | exact ⟨rfl, _, World.drewN_drewN _ _ _⟩ | exact ⟨rfl, _, Eq.trans (World.drewN_drewN _ _ _) (congrArg (World.drewN _) (Nat.add_assoc _ _ _))⟩))))
                go_ret
                exact ⟨by first | rfl | (simp; done) | (simp [*]; done), by repeat (first | exact Drawn0.refl _ | apply Drawn0.step)⟩
            · rw [if_neg c6] at H
              exact absurd H (by simp)
          · rw [if_neg c5] at H
            exact absurd H (by simp)
        · rw [if_neg c4] at H
          have c4b0 : decide (x5_1 < (l0.length : Int)) = false := decide_eq_false c4
          clear c4
          obtain rfl := Option.some.inj H
          go_wp2
          repeat (go_quiet (fail); try go_wp2)
          go_ret
          exact ⟨by first | rfl | (simp; done) | (simp [*]; done), by repeat (first | exact Drawn0.refl _ | apply Drawn0.step)⟩
  · rw [if_neg c3] at H
    have c3b0 : ((l0.length : Int) == (l1.length : Int)) = false := beq_eq_false_iff_ne.mpr c3
    have c3b1 : ((l0.length : Int) != (l1.length : Int)) = true := bne_iff_ne.mpr c3
    have c3b2 : (l0.length == l1.length) = false := by first | simpa using c3 | (simp at c3 ⊢; omega)
    obtain rfl := Option.some.inj H
    go_enter Try.func37, Try.ntmps37
    go_wp2
    repeat (go_quiet (fail); try go_wp2)
    go_ret
    exact ⟨by first | rfl | (simp; done) | (simp [*]; done), by repeat (first | exact Drawn0.refl _ | apply Drawn0.step)⟩
def laws_markIntS.l0 : Nat → List Int → Int → Int → Option (Int × List Int)
  | 0, _, _, _ => none
  | k + 1, x0, x1, x5 => if x5 < (x0.length : Int) then (if 0 ≤ x5 then (laws_markIntS.l0 k (x0.set (x5 : Int).toNat x1) (wrap64 (x1 + 1)) (wrap64 (x5 + 1))) else (none)) else (some (x1, x0))
def laws_markIntS.f (k : Nat) (l0 : List Int) (a1 : Int) : Option (Int × List Int) := laws_markIntS.l0 k l0 a1 0
set_option maxHeartbeats 8000000 in
set_option maxRecDepth 100000 in
theorem laws_markIntS.calls (k : Nat) (P0_ : Nat → Prop) (u9000_ : Value) (l0 : List Int) (a1 : Int) (r1 : Int) (r2 : List Int) (w0 w : World) (hB : Below w0.heap.size w0 w) (ho0 : Kd.R (Kd.int .i64) 3 w w0.heap.size P0_ u9000_ l0) (h : laws_markIntS.f k l0 a1 = some (r1, r2)) :
    Calls Try.prog 80 #[u9000_, .int .i64 a1] w fun e w' => e = .returned (.int .i64 r1) ∧ Kd.R (Kd.int .i64) 3 w' w0.heap.size (fun k_ => (P0_ k_ ∨ w.heap.size ≤ k_)) u9000_ r2 ∧ Below w0.heap.size w0 w' ∧ Kept w w' (fun k_ => P0_ k_) := by
  have HO0 := Aside0.mk (show Kd.R (Kd.int .i64) 3 w w0.heap.size (fun k_ => (P0_ k_ ∨ w.heap.size ≤ k_)) u9000_ l0 from Kd.R_mono ho0 (fun k_ hk => (.inl hk)))
  have HK := Aside0.mk (Kept.refl w (fun k_ => P0_ k_))
  have HW0 := Aside0.mk hB.size
  have HB := Aside0.mk hB
  clear hB
  have H : (laws_markIntS.l0 k l0 a1 0) = some (r1, r2) := h
  clear h
  have H' := Aside0.mk H
  clear H
  go_enter Try.func80, Try.ntmps80
  go_wp2
  go_loopg [1, 5] k (fun kq v1 v5 w' => ∃ (x0_1 : List Int) (x1_1 : Int) (x5_1 : Int), v1 = .int .i64 x1_1 ∧ v5 = .int .i64 x5_1 ∧ Aside0 (laws_markIntS.l0 kq x0_1 x1_1 x5_1 = some (r1, r2)) ∧ Aside0 (kq ≤ k) ∧ Aside0 (Kd.R (Kd.int .i64) 3 w' w0.heap.size (fun k_ => (P0_ k_ ∨ w.heap.size ≤ k_)) u9000_ x0_1) ∧ Aside0 (Kept w w' (fun k_ => P0_ k_)) ∧ Aside0 (Below w0.heap.size w0 w'))
  case atStart => exact ⟨(l0), (a1), (0), (by first | rfl | (simp; done) | (simp [*]; done)), (by first | rfl | (simp; done) | (simp [*]; done)), H', ⟨Nat.le_refl _⟩, ⟨rq_ HO0.out⟩, ⟨by repeat (first | (with_reducible first | exact HK.out | apply Kept.alloc | apply Kept.drewN | apply Kept.drew) | exact HK.out)⟩, ⟨bq_⟩⟩
  case round =>
    clear H'
    try clear p2
    obtain ⟨x0_1, x1_1, x5_1, rfl, rfl, HA, HK1, HO_0, HK, HB⟩ := hrel
    cases gk with
    | zero => exact absurd HA.out (by simp [laws_markIntS.l0])
    | succ k1 =>
      have H := HA.out
      clear HA
      simp only [laws_markIntS.l0] at H
      by_cases c3 : x5_1 < (x0_1.length : Int)
      · rw [if_pos c3] at H
        have c3b0 : decide (x5_1 < (x0_1.length : Int)) = true := decide_eq_true c3
        clear c3
        by_cases c4 : 0 ≤ x5_1
        · rw [if_pos c4] at H
          have c4b0 : decide (0 ≤ x5_1) = true := decide_eq_true c4
          clear c4
          obtain ⟨y190, hy190⟩ : ∃ y_ : List Int, y_ = (x0_1.set (x5_1 : Int).toNat x1_1) := ⟨_, rfl⟩
          replace H : (laws_markIntS.l0 k1 y190 (wrap64 (x1_1 + 1)) (wrap64 (x5_1 + 1))) = some (r1, r2) := by first | (rw [hy190]; with_reducible exact H) | (have H2_ := (Option.bind_some _ _).symm.trans H; rw [hy190]; with_reducible exact H2_) | (have H2_ := (Option.bind_some _ _).symm.trans H; with_reducible exact H2_) | with_reducible exact H | (rw [hy190]; exact H) | exact H
          have Ny190 := Aside0.mk hy190
          clear hy190
          have H' := Aside0.mk H
          clear H
          obtain ⟨Ao6, co6, eo6⟩ := Kd.R_slice HO_0.out
          subst eo6
          have p5 : 0 ≤ (x5_1 : Int) := of_decide_eq_true (by first | (with_reducible assumption) | assumption)
          have q5 : (x5_1 : Int) < ((x0_1.length : Int) : Int) := of_decide_eq_true (by first | (with_reducible assumption) | assumption)
          obtain ⟨go5, co5, eo5, gb5, gl5, cl5, HG5⟩ := Kd.R_form HO_0.out (by omega)
          (first | cases eo5 | (injection eo5 with ea_ en_ ec_; (first | subst ea_ | (injection ea_ with ea_; subst ea_)); subst ec_; clear en_))
          have GB5 := Aside0.mk gb5
          have GG5 := Aside0.mk HG5
          clear gb5 gl5 HG5
          have HMgo5 := Aside0.mk (show (P0_ go5 ∨ w.heap.size ≤ go5) from (HO_0.out.1 _ rfl))
          obtain ⟨hx5_0, hf5_0⟩ := Kd.R_celln 0 HO_0.out (x5_1 : Int) p5 q5
          replace p5 := eq_true p5
          replace q5 := eq_true q5
          have HP7 := Kd.R_putg HO_0.out (x5_1 : Int) x1_1
          go_wp2_with (first | ((with_reducible refine gate_store (t := 3) (p := 15) rfl ?_); refine store_event (t := 3) (p := 15) (v := ?vo_w8) (w1 := (wr.setCell ⟨go5, (x5_1 : Int).toNat, none⟩ (.int .i64 x1_1))) ?hg ?ho ?hn ?hr ?_; (case ho => rfl); (case hg => rfl); (case hn => rfl); (case hr => first | (go_simp; done) | (go_simp; rfl)); intro w8 hw; have hg : wr.grownBy w8 (some go5) := (by rw [hw]; exact HP7.2); have hp_ : Kd.R (Kd.int .i64) 3 w8 w0.heap.size (fun k_ => (P0_ k_ ∨ w.heap.size ≤ k_)) (.slice (some ⟨go5, 0, none⟩) x0_1.length co6) y190 := (by rw [hw, Ny190.out]; exact HP7.1); clear HP7; have n0_ := Aside0.mk (hp_); have n1_ := Aside0.mk ((by rw [hw]; exact below_set (HB.out) GB5.out : Below w0.heap.size w0 w8)); have n2_ := Aside0.mk (Kept.of_grown (S := (fun k_ => P0_ k_)) hg (by repeat (first | (with_reducible first | exact HK.out | apply Kept.alloc | apply Kept.drewN | apply Kept.drew) | exact HK.out)) (fun k_ e_ => (HO_0.out.1 k_ e_))); clear HO_0; clear HB; clear HK; have HO_0 := n0_; have HB := n1_; have HK := n2_; clear n0_ n1_ n2_; clear hg hw hp_))
          go_roundg k1
          case measure => have := HK1.out; omega
          case rel => exact ⟨(y190), (wrap64 (x1_1 + 1)), (wrap64 (x5_1 + 1)), (by first | rfl | (simp; done) | (simp [*]; done)), (by first | rfl | (simp; done) | (simp [*]; done)), H', ⟨by have := HK1.out; omega⟩, ⟨rq_ HO_0.out⟩, ⟨by repeat (first | (with_reducible first | exact HK.out | apply Kept.alloc | apply Kept.drewN | apply Kept.drew) | exact HK.out)⟩, ⟨bq_⟩⟩
        · rw [if_neg c4] at H
          exact absurd H (by simp)
      · rw [if_neg c3] at H
        have c3b0 : decide (x5_1 < (x0_1.length : Int)) = false := decide_eq_false c3
        clear c3
        simp only [Option.some.injEq, Prod.mk.injEq] at H
        obtain ⟨rfl, rfl⟩ := H
        obtain ⟨Ao9, co9, eo9⟩ := Kd.R_slice HO_0.out
        subst eo9
        go_wp2
        go_ret
        exact ⟨by first | rfl | (simp [errW_none, errW_some] <;> rfl) | (simp [*, errW_none, errW_some] <;> rfl), rq_ HO_0.out, bq_, by repeat (first | (with_reducible first | exact HK.out | apply Kept.alloc | apply Kept.drewN | apply Kept.drew) | exact HK.out)⟩
def laws_markIntSS.l0 : Nat → List (List Int) → Int → Int → Option (Int × List (List Int))
  | 0, _, _, _ => none
  | k + 1, rows, kk, x => if x < (rows.length : Int) then (if 0 ≤ x then ((laws_markIntS.f k (rows.getD x.toNat []) kk).bind fun q => laws_markIntSS.l0 k (rows.set x.toNat q.2) q.1 (wrap64 (x + 1))) else none) else some (kk, rows)
def laws_markIntSS.f (k : Nat) (l0 : List (List Int)) (a1 : Int) : Option (Int × List (List Int)) := laws_markIntSS.l0 k l0 a1 0
theorem laws_markIntSS.step {w0 W W' : World} {P0 oki : Nat → Prop} {v vr : Value} {rows : List (List Int)} {x : Int} {row row2 : List Int} (h : Kd.H (Kd.slice 3 (Kd.int .i64)) 88 W w0.heap.size P0 v rows x oki [vr]) (hr : Kd.R (Kd.int .i64) 3 W w0.heap.size oki vr row) (ho : Kd.R (Kd.int .i64) 3 W' w0.heap.size (fun k => oki k ∨ W.heap.size ≤ k) vr row2) (hk : Kept W W' oki) : Kd.S (Kd.slice 3 (Kd.int .i64)) 88 W' w0.heap.size P0 v (rows.set x.toNat row2) :=
  Kd.H_back (Kd.H_step h (fun k _ hn hlt => hk.2 k hlt hn)) ⟨vr, rfl, Kd.R_mono (Kd.R_tight rfl ho) (fun k hk => hr.1 k hk.symm)⟩ (fun _ hk => hk)
theorem laws_markIntSS.kept {w W W' : World} {P0 oki : Nat → Prop} (h : Kept w W P0) (hk : Kept W W' oki) (hok : ∀ k, oki k → P0 k) : Kept w W' P0 :=
  ⟨Nat.le_trans h.1 hk.1, fun i hi hn => (hk.2 i (Nat.lt_of_lt_of_le hi h.1) (fun q => hn (hok i q))).trans (h.2 i hi hn)⟩
set_option maxHeartbeats 8000000 in
set_option maxRecDepth 100000 in
theorem laws_markIntSS.calls (k : Nat) (P0 : Nat → Prop) (A0 : Option Addr) (c0 : Nat) (l0 : List (List Int)) (a1 : Int) (r1 : Int) (r2 : List (List Int)) (w0 w : World) (hB : Below w0.heap.size w0 w) (ho0 : Kd.S (Kd.slice 3 (Kd.int .i64)) 88 w w0.heap.size P0 (.slice A0 l0.length c0) l0) (h : laws_markIntSS.f k l0 a1 = some (r1, r2)) :
    Calls Try.prog 38 #[.slice A0 l0.length c0, .int .i64 a1] w fun e w' => e = .returned (.int .i64 r1) ∧ Kd.S (Kd.slice 3 (Kd.int .i64)) 88 w' w0.heap.size P0 (.slice A0 l0.length c0) r2 ∧ Below w0.heap.size w0 w' ∧ Kept w w' P0 := by
  have H' := Aside0.mk (show laws_markIntSS.l0 k l0 a1 0 = some (r1, r2) from h)
  have HS := Aside0.mk ho0
  have HB := Aside0.mk hB
  have HK := Aside0.mk (Kept.refl w P0)
  clear h ho0 hB
  go_enter Try.func38, Try.ntmps38
  go_wp2
  go_loopg [1, 5] k (fun kq v1 v5 w' => ∃ (rows : List (List Int)) (kk x : Int), v1 = .int .i64 kk ∧ v5 = .int .i64 x ∧ Aside0 (laws_markIntSS.l0 kq rows kk x = some (r1, r2)) ∧ Aside0 (kq ≤ k) ∧ Aside0 (Kd.S (Kd.slice 3 (Kd.int .i64)) 88 w' w0.heap.size P0 (.slice A0 l0.length c0) rows) ∧ Aside0 (Below w0.heap.size w0 w') ∧ Aside0 (Kept w w' P0))
  case atStart => exact ⟨_, _, _, rfl, (by first | rfl | (simp; done) | (simp [*]; done)), H', ⟨Nat.le_refl _⟩, ⟨by (with_reducible repeat (first | apply Kd.S_alloc | apply Kd.S_drewN | apply Kd.S_drew)); exact HS.out⟩, ⟨bq_⟩, ⟨by repeat (first | (with_reducible first | exact HK.out | apply Kept.alloc | apply Kept.drewN | apply Kept.drew) | exact HK.out)⟩⟩
  case round =>
    clear H' HS HB HK
    obtain ⟨rows, kk, x, rfl, rfl, HA, HK1, HS, HB, HK⟩ := hrel
    have en : rows.length = l0.length := (Kd.S_reads' HS.out).1.symm
    cases gk with
    | zero => exact absurd HA.out (by simp [laws_markIntSS.l0])
    | succ k1 =>
      have H := HA.out
      clear HA
      simp only [laws_markIntSS.l0] at H
      by_cases c4 : x < (rows.length : Int)
      · rw [if_pos c4] at H
        rw [en] at c4
        have c4b0 : decide (x < (l0.length : Int)) = true := decide_eq_true c4
        by_cases c5 : 0 ≤ x
        · rw [if_pos c5] at H
          obtain ⟨⟨r3, row2⟩, A70, H⟩ := Option.bind_eq_some_iff.mp H
          have A7 := Aside0.mk A70
          have H' := Aside0.mk H
          obtain ⟨g, cap, eo, hg1_, hg2_, hg3_⟩ := Kd.S_form HS.out (by rw [en]; omega)
          injection eo with ea el ec
          subst ea
          subst ec
          obtain ⟨oki, c, hcl, hM, hcc, hok, hh⟩ := Kd.S_lend HS.out [] x c5 (by omega)
          obtain ⟨vr, hc1, hrw⟩ := hM
          subst hc1
          have hcr := hcc 0 vr rfl
          have HH := Aside0.mk hh
          have HRW := Aside0.mk hrw
          have HOK := Aside0.mk (fun k (hk : oki k) => (hok k hk).1)
          have p101 := eq_true c5
          have q101 := eq_true c4
          have ex : x.toNat * (Kd.slice 3 (Kd.int .i64)).sz + 0 = x.toNat := by
            show x.toNat * 1 + 0 = x.toNat
            omega
          rw [ex] at hcr
          clear ex
          obtain ⟨Ar, cr, er⟩ := Kd.R_slice hrw
          subst er
          clear A70
          generalize hrow_ : rows.getD x.toNat [] = row at A7 hrw hcr HRW HH
          clear hrow_
          clear H c4 c5 hcl hcc hok hh hrw HS el hg1_ hg2_ hg3_
          go_wp2_with (go_at_call 80; refine (laws_markIntS.calls k1 oki (.slice Ar row.length cr) row kk r3 row2 w0 _ (bq_) ((rq_ HRW.out)) A7.out).mono ?_; rintro e w6 ⟨rfl, ho, hb, hk⟩; have n0_ := Aside0.mk (laws_markIntSS.step HH.out HRW.out ho hk); have n1_ := Aside0.mk hb; have n2_ := Aside0.mk (laws_markIntSS.kept HK.out hk HOK.out); clear HH HRW HB HK hcr ho hb hk; have HS := n0_; have HB := n1_; have HK := n2_; clear n0_ n1_ n2_)
          go_roundg k1
          case measure => have := HK1.out; omega
          case rel => exact ⟨_, _, _, rfl, (by first | rfl | (simp; done) | (simp [*]; done)), H', ⟨by have := HK1.out; omega⟩, ⟨by (with_reducible repeat (first | apply Kd.S_alloc | apply Kd.S_drewN | apply Kd.S_drew)); exact HS.out⟩, ⟨bq_⟩, ⟨by repeat (first | (with_reducible first | exact HK.out | apply Kept.alloc | apply Kept.drewN | apply Kept.drew) | exact HK.out)⟩⟩
        · rw [if_neg c5] at H; cases H
      · rw [if_neg c4] at H
        rw [en] at c4
        have c4b0 : decide (x < (l0.length : Int)) = false := decide_eq_false c4
        clear c4
        simp only [Option.some.injEq, Prod.mk.injEq] at H
        obtain ⟨rfl, rfl⟩ := H
        go_wp2
        go_ret
        exact ⟨by first | rfl | (simp; done) | (simp [*]; done), by (with_reducible repeat (first | apply Kd.S_alloc | apply Kd.S_drewN | apply Kd.S_drew)); exact HS.out, bq_, by repeat (first | (with_reducible first | exact HK.out | apply Kept.alloc | apply Kept.drewN | apply Kept.drew) | exact HK.out)⟩
def laws_FnExactByClauses.Pure : Prop := ∀ (a0 : Int) (l1 : List (List Int)), (Lit.int .i64 a0).wf = true → (l1.length ≤ maxLen ∧ ∀ y0_ ∈ l1, y0_.length ≤ maxLen ∧ ∀ y1_ ∈ y0_, (Lit.int .i64 y1_).wf = true) → ∃ s k0, laws_szIntSS.f k0 l1 1048576 = some s ∧ (0 ≤ s → ∃ (k : Nat) (x' : List (List Int)) (v t : Int) (n n' : List S75) (b : Bool) (km m : Int), laws_toIntSS.f k l1 = some l1 ∧ spec_ByClauses.f k a0 l1 = some (v, n, t, b) ∧ impl_ByClauses.f k a0 l1 = some (v, n, t, b) ∧ laws_eqDiagram.f k v n t v n t = some true ∧ laws_eqIntSS.f k l1 l1 = some true ∧ laws_markIntSS.f k l1 1 = some (km, x') ∧ 0 ≤ km ∧ laws_markDiagram.f k v n t 1 = some (m, n') ∧ laws_heldDiagram.f k v n' t 1 = some m ∧ 0 ≤ m)
theorem laws_FnExactByClauses.sz30 : (Try.prog.info? 30).map (·.size) = some 3 := by kernel_rfl
set_option maxHeartbeats 8000000 in
set_option maxRecDepth 100000 in
theorem laws_FnExactByClauses.walk (P : laws_FnExactByClauses.Pure) (w : World) (a0 : Int) (hg0 : (Lit.int .i64 a0).wf = true) (A1 : Option Addr) (c1 : Nat) (l1 : List (List Int)) (hr1 : Kd.C (Kd.slice 3 (Kd.int .i64)) w A1 l1.length l1) (hc1 : l1.length ≤ c1) (hg1 : (l1.length ≤ maxLen ∧ ∀ y0_ ∈ l1, y0_.length ≤ maxLen ∧ ∀ y1_ ∈ y0_, (Lit.int .i64 y1_).wf = true)) :
    Calls Try.prog 9 #[.int .i64 a0, .slice A1 l1.length c1] w fun e w' => e = .returned (.bool true) ∧ Below w.heap.size w w' := by
  obtain ⟨s, k0, hs, hP⟩ := P a0 l1 hg0 hg1
  have HR1 := Aside0.mk hr1
  have HC1 := Aside0.mk hc1
  have HX := Aside0.mk (Ex.refl w)
  have hS := Aside0.mk hs
  clear hr1 hc1 hg0 hg1 hs P
  by_cases h0 : s < 0
  · have c3 : decide (s < 0) = true := decide_eq_true h0
    clear h0 hP
    go_enter Try.func9, Try.ntmps9
    go_wp2_with (go_at_call 33; refine (laws_szIntSS.calls k0 _ _ l1 1048576 s _ (Kd.C_below HR1.out HX.out.below) HC1.out hS.out).mono ?_; rintro e W1 ⟨rfl, hd⟩; have n_ := Aside0.mk (HX.out.call hd.below); clear HX hd; have HX := n_; clear n_)
    go_ret
    exact ⟨rfl, HX.out.below⟩
  · have c3 : decide (s < 0) = false := decide_eq_false h0
    obtain ⟨k, x', v, t, n, n', b, km, m, h1, h2, h3, h4, h5, h6, h7, h8, h9, h10⟩ := hP (by omega)
    replace h1 := Aside0.mk h1
    replace h2 := Aside0.mk h2
    replace h3 := Aside0.mk h3
    replace h4 := Aside0.mk h4
    replace h5 := Aside0.mk h5
    replace h6 := Aside0.mk h6
    replace h8 := Aside0.mk h8
    replace h9 := Aside0.mk h9
    have c7 : decide (km < 0) = false := decide_eq_false (by omega)
    have c10 : decide (m < 0) = false := decide_eq_false (by omega)
    have cb : (b != b) = false := by cases b <;> rfl
    have cm : (m != m) = false := bne_self_eq_false m
    clear h0 hP h7 h10
    go_enter Try.func9, Try.ntmps9
    go_upto_region 5 with (go_at_call 33; refine (laws_szIntSS.calls k0 _ _ l1 1048576 s _ (Kd.C_below HR1.out HX.out.below) HC1.out hS.out).mono ?_; rintro e W1 ⟨rfl, hd⟩; have n_ := Aside0.mk (HX.out.call hd.below); clear HX hd; have HX := n_; clear n_)
    go_upto_region 6 with (first | (go_at_call 35; refine (laws_toIntSS.calls k _ _ l1 l1 _ (Kd.C_below HR1.out HX.out.below) HC1.out h1.out).mono ?_; rintro e W2 ⟨v_, rfl, ho, hb⟩; obtain ⟨At, ct, rfl⟩ := Kd.S_slice ho; have HYt := Aside0.mk (Kd.S_reads' ho).2.2; have HYct := Aside0.mk (Kd.S_reads' ho).2.1; have n_ := Aside0.mk (HX.out.call hb); clear HX ho hb; have HX := n_; clear n_) | (go_at_call 34; refine (spec_ByClauses.calls k a0 _ _ l1 v n t b _ HYt.out HYct.out h2.out).mono ?_; rintro e W3 ⟨v_, rfl, ho, hb⟩; obtain ⟨Aw, cw, rfl⟩ := Kd.R_slice ho; have HWc := Aside0.mk (Kd.R_reads' ho).2.1; have n_ := Aside0.mk (HX.out.made hb (fun W_ : World => Kd.C k75 W_ Aw n.length n) (Ex.of_N (Kd.R_N (Kd.R_mono (Kd.R_bound ho) (fun _ h_ => h_.2.1))) (fun _ h_ => h_))); clear HX ho hb HYt HYct; have HX := n_; clear n_) | ((with_reducible refine gate_dst (N := 6) rfl ?_); refine ex_box HX (N := 6) (cs := #[.int .i64 0, .slice none 0 0, .int .i64 0]) (t := 30) ?_; clear HX; intro g6 hi6 W4 hlt6 HX) | ((with_reducible refine gate_store (t := 30) (p := 6) rfl ?_); refine ex_store HX (T := 30) (p := 6) (y := .tmp 26) rfl 0 #[.int .i64 v, .slice Aw n.length cw, .int .i64 t] rfl hlt6.out laws_FnExactByClauses.sz30 ?_; clear HX hlt6; intro W5 HX))
    go_upto_region 7 with (go_at_call 35; refine (laws_toIntSS.calls k _ _ l1 l1 _ (Kd.C_below HR1.out HX.out.below) HC1.out h1.out).mono ?_; rintro e W6 ⟨v_, rfl, ho, hb⟩; obtain ⟨Ax, cx, rfl⟩ := Kd.S_slice ho; have n_ := Aside0.mk (HX.out.made hb (fun W_ : World => Kd.S (Kd.slice 3 (Kd.int .i64)) 88 W_ w.heap.size (fun k_ => W5.heap.size ≤ k_ ∧ k_ < W6.heap.size) (.slice Ax l1.length cx) l1) (Ex.of_S ho HX.out.below.size)); clear HX ho hb; have HX := n_; clear n_)
    go_upto_region 8 with (first | (go_at_call 36; have hr_ := Kd.S_reads' (HX.out.now 0 rfl); refine (impl_ByClauses.calls k a0 _ _ l1 v n t b _ hr_.2.2 hr_.2.1 h3.out).mono ?_; rintro e W7 ⟨v_, rfl, ho, hb⟩; clear hr_; obtain ⟨Ag, cg, rfl⟩ := Kd.R_slice ho; have n_ := Aside0.mk (HX.out.made hb (fun W_ : World => Kd.R k75 75 W_ w.heap.size (fun k_ => W6.heap.size ≤ k_ ∧ k_ < W7.heap.size) (.slice Ag n.length cg) n) (Ex.of_R ho HX.out.below.size)); clear HX ho hb; have HX := n_; clear n_) | ((with_reducible refine gate_dst (N := 9) rfl ?_); refine ex_box HX (N := 9) (cs := #[.int .i64 0, .slice none 0 0, .int .i64 0]) (t := 30) ?_; clear HX; intro g9 hi9 W8 hlt9 HX) | ((with_reducible refine gate_store (t := 30) (p := 9) rfl ?_); refine ex_store HX (T := 30) (p := 9) (y := .tmp 34) rfl 0 #[.int .i64 v, .slice Ag n.length cg, .int .i64 t] rfl hlt9.out laws_FnExactByClauses.sz30 ?_; clear HX hlt9; intro W9 HX))
    have z9_0 := HX.out.cell 0 0 (v := (.int .i64 v)) rfl rfl
    have z9_1 := HX.out.cell 0 1 (v := (.slice Ag n.length cg)) rfl rfl
    have z9_2 := HX.out.cell 0 2 (v := (.int .i64 t)) rfl rfl
    have z6_0 := HX.out.cell 3 0 (v := (.int .i64 v)) rfl rfl
    have z6_1 := HX.out.cell 3 1 (v := (.slice Aw n.length cw)) rfl rfl
    have z6_2 := HX.out.cell 3 2 (v := (.int .i64 t)) rfl rfl
    go_upto_region 10 with (go_at_call 16; have hr_ := Kd.R_reads' (HX.out.now 1 rfl); refine (laws_eqDiagram.calls k v _ _ n t v _ _ n t true _ hr_.2.2 hr_.2.1 (HX.out.now 4 rfl) HWc.out h4.out).mono ?_; rintro e W10 ⟨rfl, hb⟩; clear hr_; have n_ := Aside0.mk (HX.out.call hb); clear HX hb; have HX := n_; clear n_)
    clear z9_0 z9_1 z9_2 z6_0 z6_1 z6_2
    go_upto_region 12 with (first | (go_at_call 35; refine (laws_toIntSS.calls k _ _ l1 l1 _ (Kd.C_below HR1.out HX.out.below) HC1.out h1.out).mono ?_; rintro e W11 ⟨v_, rfl, ho, hb⟩; obtain ⟨Au, cu, rfl⟩ := Kd.S_slice ho; have HYu := Aside0.mk (Kd.S_reads' ho).2.2; have HYcu := Aside0.mk (Kd.S_reads' ho).2.1; have n_ := Aside0.mk (HX.out.call hb); clear HX ho hb; have HX := n_; clear n_) | (go_at_call 37; have hr_ := Kd.S_reads' (HX.out.now 2 rfl); refine (laws_eqIntSS.calls k _ _ l1 _ _ l1 true _ hr_.2.2 hr_.2.1 HYu.out HYcu.out h5.out).mono ?_; rintro e W12 ⟨rfl, hd⟩; clear hr_; have n_ := Aside0.mk (HX.out.call hd.below); clear HX hd HYu HYcu; have HX := n_; clear n_))
    go_upto_region 14 with (go_at_call 38; refine (laws_markIntSS.calls k _ _ _ l1 1 km x' w _ HX.out.below (HX.out.now 2 rfl) h6.out).mono ?_; rintro e W13 ⟨rfl, ho, hb, hk⟩; have n_ := Aside0.mk (HX.out.wrote 2 rfl hb hk (fun _ h_ => h_) (fun _ => True) (fun _ _ => trivial)); clear HX ho hb hk; have HX := n_; clear n_)
    have z9_0 := HX.out.cell 0 0 (v := (.int .i64 v)) rfl rfl
    have z9_1 := HX.out.cell 0 1 (v := (.slice Ag n.length cg)) rfl rfl
    have z9_2 := HX.out.cell 0 2 (v := (.int .i64 t)) rfl rfl
    have z6_0 := HX.out.cell 3 0 (v := (.int .i64 v)) rfl rfl
    have z6_1 := HX.out.cell 3 1 (v := (.slice Aw n.length cw)) rfl rfl
    have z6_2 := HX.out.cell 3 2 (v := (.int .i64 t)) rfl rfl
    go_upto_region 16 with (go_at_call 16; have hr_ := Kd.R_reads' (HX.out.now 1 rfl); refine (laws_eqDiagram.calls k v _ _ n t v _ _ n t true _ hr_.2.2 hr_.2.1 (HX.out.now 4 rfl) HWc.out h4.out).mono ?_; rintro e W14 ⟨rfl, hb⟩; clear hr_; have n_ := Aside0.mk (HX.out.call hb); clear HX hb; have HX := n_; clear n_)
    clear z9_0 z9_1 z9_2 z6_0 z6_1 z6_2
    have z9_0 := HX.out.cell 0 0 (v := (.int .i64 v)) rfl rfl
    have z9_1 := HX.out.cell 0 1 (v := (.slice Ag n.length cg)) rfl rfl
    have z9_2 := HX.out.cell 0 2 (v := (.int .i64 t)) rfl rfl
    go_upto_region 18 with (go_at_call 23; have ho1 := HX.out.now 1 rfl; refine (laws_markDiagram.calls k v _ _ n t 1 m n' w _ HX.out.below ho1 h8.out).mono ?_; rintro e W15 ⟨rfl, ho, hb, hk⟩; have n_ := Aside0.mk (HX.out.wrote 1 rfl hb hk (fun _ h_ => h_) (fun W_ : World => Kd.R k75 75 W_ w.heap.size (fun k_ => W6.heap.size ≤ k_ ∧ k_ < W7.heap.size) (.slice Ag n.length cg) n') (fun W_ hW_ => Kd.R_step (Kd.R_mono (Kd.R_tight rfl ho) (fun k_ hk_ => ho1.1 k_ hk_.symm)) (fun k_ hk_ _ => hW_ k_ hk_.1 hk_.2))); clear HX ho hb hk ho1; have HX := n_; clear n_)
    clear z9_0 z9_1 z9_2
    have z9_0 := HX.out.cell 0 0 (v := (.int .i64 v)) rfl rfl
    have z9_1 := HX.out.cell 0 1 (v := (.slice Ag n.length cg)) rfl rfl
    have z9_2 := HX.out.cell 0 2 (v := (.int .i64 t)) rfl rfl
    go_upto_region 20 with (go_at_call 28; have hr_ := Kd.R_reads' (HX.out.now 1 rfl); have hc_ := laws_heldDiagram.calls k v _ _ n' t 1 m _ hr_.2.2 (Nat.le_trans (Nat.le_of_eq hr_.1.symm) hr_.2.1) h9.out; rw [← hr_.1] at hc_; refine hc_.mono ?_; clear hc_; rintro e W16 ⟨rfl, hb⟩; clear hr_; have n_ := Aside0.mk (HX.out.call hb); clear HX hb; have HX := n_; clear n_)
    clear z9_0 z9_1 z9_2
    go_upto_region 24 with (fail)
    go_upto_region 25 with (first | (go_at_call 35; refine (laws_toIntSS.calls k _ _ l1 l1 _ (Kd.C_below HR1.out HX.out.below) HC1.out h1.out).mono ?_; rintro e W17 ⟨v_, rfl, ho, hb⟩; obtain ⟨Av, cv, rfl⟩ := Kd.S_slice ho; have HYv := Aside0.mk (Kd.S_reads' ho).2.2; have HYcv := Aside0.mk (Kd.S_reads' ho).2.1; have n_ := Aside0.mk (HX.out.call hb); clear HX ho hb; have HX := n_; clear n_) | (go_at_call 36; refine (impl_ByClauses.calls k a0 _ _ l1 v n t b _ HYv.out HYcv.out h3.out).mono ?_; rintro e W18 ⟨v_, rfl, ho, hb⟩; obtain ⟨Ah, ch, rfl⟩ := Kd.R_slice ho; have HHc := Aside0.mk (Kd.R_reads' ho).2.1; have n_ := Aside0.mk (HX.out.made hb (fun W_ : World => Kd.C k75 W_ Ah n.length n) (Ex.of_N (Kd.R_N (Kd.R_mono (Kd.R_bound ho) (fun _ h_ => h_.2.1))) (fun _ h_ => h_))); clear HX ho hb HYv HYcv; have HX := n_; clear n_) | ((with_reducible refine gate_dst (N := 14) rfl ?_); refine ex_box HX (N := 14) (cs := #[.int .i64 0, .slice none 0 0, .int .i64 0]) (t := 30) ?_; clear HX; intro g14 hi14 W19 hlt14 HX) | ((with_reducible refine gate_store (t := 30) (p := 14) rfl ?_); refine ex_store HX (T := 30) (p := 14) (y := .tmp 82) rfl 0 #[.int .i64 v, .slice Ah n.length ch, .int .i64 t] rfl hlt14.out laws_FnExactByClauses.sz30 ?_; clear HX hlt14; intro W20 HX))
    have z14_0 := HX.out.cell 0 0 (v := (.int .i64 v)) rfl rfl
    have z14_1 := HX.out.cell 0 1 (v := (.slice Ah n.length ch)) rfl rfl
    have z14_2 := HX.out.cell 0 2 (v := (.int .i64 t)) rfl rfl
    have z6_0 := HX.out.cell 5 0 (v := (.int .i64 v)) rfl rfl
    have z6_1 := HX.out.cell 5 1 (v := (.slice Aw n.length cw)) rfl rfl
    have z6_2 := HX.out.cell 5 2 (v := (.int .i64 t)) rfl rfl
    go_upto_region 27 with (go_at_call 16; refine (laws_eqDiagram.calls k v _ _ n t v _ _ n t true _ (HX.out.now 1 rfl) HHc.out (HX.out.now 6 rfl) HWc.out h4.out).mono ?_; rintro e W21 ⟨rfl, hb⟩; have n_ := Aside0.mk (HX.out.call hb); clear HX hb; have HX := n_; clear n_)
    clear z14_0 z14_1 z14_2 z6_0 z6_1 z6_2
    have z9_0 := HX.out.cell 2 0 (v := (.int .i64 v)) rfl rfl
    have z9_1 := HX.out.cell 2 1 (v := (.slice Ag n.length cg)) rfl rfl
    have z9_2 := HX.out.cell 2 2 (v := (.int .i64 t)) rfl rfl
    go_upto_region 29 with (go_at_call 28; have hr_ := Kd.R_reads' (HX.out.now 3 rfl); have hc_ := laws_heldDiagram.calls k v _ _ n' t 1 m _ hr_.2.2 (Nat.le_trans (Nat.le_of_eq hr_.1.symm) hr_.2.1) h9.out; rw [← hr_.1] at hc_; refine hc_.mono ?_; clear hc_; rintro e W22 ⟨rfl, hb⟩; clear hr_; have n_ := Aside0.mk (HX.out.call hb); clear HX hb; have HX := n_; clear n_)
    clear z9_0 z9_1 z9_2
    go_wp2
    go_ret
    exact ⟨rfl, HX.out.below⟩
end Go.Proofs.Ytpndhlcbfobelaa.PBE
