import Derived.Test.YtgahidilhjijiaaPGTx0
namespace Go.Proofs.Ytgahidilhjijiaa.PGT
open Go.RowKit Go.Proofs.YtgahidilhjijiaaW.PrintWords Go.Proofs.YtgahidilhjijiaaW.PrintLast Go.Proofs.YtgahidilhjijiaaW.PrintMore
attribute [local go_sem] max2_int min2_int max_two min_two max_three min_three max_four min_four   -- for this text's walks alone
set_option linter.unusedVariables false
set_option linter.unusedSimpArgs false
def spec_l4Model.l0 : Nat → Int → List Bool → Int → Int → Option (List Bool)
 | 0, _, _, _, _ => none
 | k + 1, x1, x5, x10, x11 => if x11 < x10 then (if 0 ≤ (IntKind.u64.wrap (x11)) then (if 0 ≤ x11 then (if x11 < (x5.length : Int) then (spec_l4Model.l0 k x1 (x5.set (x11 : Int).toNat ((Go.bits .and .i64 (shr .i64 x1 (IntKind.u64.wrap (x11))) 1) == 1)) x10 (wrap64 (x11 + 1))) else (none)) else (none)) else (none)) else (some x5)
def spec_l4Model.f (k : Nat) (a0 : Int) (a1 : Int) : Option (List Bool) := if 0 ≤ a0 then (if (a0 : Int).toNat ≤ 281474976710656 then ((some (List.replicate (a0 : Int).toNat false : List Bool)).bind fun y426 => (spec_l4Model.l0 k a1 y426 (y426.length : Int) 0)) else (none)) else (none)
set_option maxHeartbeats 8000000 in
set_option maxRecDepth 100000 in
theorem spec_l4Model.calls (k : Nat) (a0 : Int) (a1 : Int) (r : List Bool) (w : World) (h : spec_l4Model.f k a0 a1 = some r) :
  Calls Try.prog 52 #[.int .i64 a0, .int .i64 a1] w fun e w' => ∃ v0_ : Value, e = .returned (v0_) ∧ Kd.R Kd.bool 4 w' w.heap.size (fun _ => True) v0_ r ∧ Below w.heap.size w w' := by
 have HB := am_ (Below.refl w.heap.size w)
 have H : (if 0 ≤ a0 then (if (a0 : Int).toNat ≤ 281474976710656 then ((some (List.replicate (a0 : Int).toNat false : List Bool)).bind fun y426 => (spec_l4Model.l0 k a1 y426 (y426.length : Int) 0)) else (none)) else (none)) = some r := h
 clear h
 by_cases c3 : 0 ≤ a0
 ·rw [if_pos c3] at H
  have c3b0 := eq_true c3
  have c3b1 : decide (0 ≤ a0) = true := decide_eq_true c3
  clear c3
  by_cases c4 : (a0 : Int).toNat ≤ 281474976710656
  ·rw [if_pos c4] at H
   have c4b0 := eq_true c4
   have c4b1 : decide ((a0 : Int).toNat ≤ 281474976710656) = true := decide_eq_true c4
   clear c4
   obtain ⟨y426, hy426⟩ : ∃ y_ : List Bool, y_ = (List.replicate (a0 : Int).toNat false) := ⟨_, rfl⟩
   replace H : (spec_l4Model.l0 k a1 y426 (y426.length : Int) 0) = some r := by first | (rw [hy426]; with_reducible exact H) | (have H2_ := (Option.bind_some _ _).symm.trans H; rw [hy426]; with_reducible exact H2_) | (have H2_ := (Option.bind_some _ _).symm.trans H; with_reducible exact H2_) | with_reducible exact H | (rw [hy426]; exact H) | exact H
   have Ny426 := am_ hy426
   clear hy426
   have H' := am_ H
   clear H
   go_enter Try.func52, Try.ntmps52
   go_wp2_with (first | ((with_reducible refine gate_dst (N := 8) rfl ?_); refine Kd.R_make Kd.bool _ 4 rfl (N := 8) rfl 37 _ _ rfl a0 rfl rfl Try.underlying37 (.bool false) 1 info4 rfl (by decide) (by omega) false (ok := fun _ => True) (okp := fun _ => True) rfl (fun _ hk => hk) trivial (od_) (Nat.le_trans (Nat.mul_le_mul_right _ (od_ : a0.toNat ≤ 281474976710656)) (by omega)) (Below.refl _ _) (Nat.le_refl _) ?_; intro v427 w5 ho6 hb hg_ hnew_; clear hg_ hnew_; (first | rw [← Ny426.out] at ho6 | (simp only [Int.reduceToNat] at ho6; rw [← Ny426.out] at ho6)); have HO428 := am_ (Kd.R_lower ho6 (below_size (bq_))); replace HB := bs_ hb; clear hb ho6; obtain ⟨Ao7, co7, eo7⟩ := Kd.R_slice HO428.out; subst eo7))
   go_loopg [11] k (fun kq v11 w' => ∃ (x5_1 : List Bool) (x11_1 : Int), v11 = .int .i64 x11_1 ∧ Aside0 (spec_l4Model.l0 kq a1 x5_1 (y426.length : Int) x11_1 = some r) ∧ Aside0 (kq ≤ k) ∧ Aside0 (Kd.R Kd.bool 4 w' w.heap.size (fun _ => True) (.slice Ao7 y426.length co7) x5_1) ∧ Aside0 (Below w.heap.size w w'))
   case atStart => exact ⟨(y426), (0), y53_, H', ⟨Nat.le_refl _⟩, ⟨rq_ HO428.out⟩, ⟨bq_⟩⟩
   case round =>
    clear H'
    try clear p2
    try clear c3
    try clear c3b0
    try clear c3b1
    try clear c4
    try clear c4b0
    try clear c4b1
    try clear c5
    obtain ⟨x5_1, x11_1, rfl, HA, HK1, HO_5, HB⟩ := hrel
    have hl5_1 := (Kd.R_reads' HO_5.out).1
    rw [hl5_1] at HO_5
    (try simp only [hl5_1])
    cases gk with
    | zero => exact absurd HA.out (by simp [spec_l4Model.l0])
    | succ k1 =>
     have H := HA.out
     clear HA
     simp only [spec_l4Model.l0] at H
     by_cases c8 : x11_1 < (y426.length : Int)
     ·rw [if_pos c8] at H
      have c8b0 : decide (x11_1 < (y426.length : Int)) = true := decide_eq_true c8
      (try (have c8hhl5_1 := c8b0; simp only [hl5_1] at c8hhl5_1))
      clear c8
      obtain ⟨ji9, hji9⟩ : ∃ j_ : Int, (IntKind.u64.wrap (x11_1)) = j_ := ⟨_, rfl⟩
      replace H : (if 0 ≤ (ji9) then (if 0 ≤ x11_1 then (if x11_1 < (x5_1.length : Int) then (spec_l4Model.l0 k1 a1 (x5_1.set (x11_1 : Int).toNat ((Go.bits .and .i64 (shr .i64 a1 (ji9)) 1) == 1)) (y426.length : Int) (wrap64 (x11_1 + 1))) else (none)) else (none)) else (none)) = some r := by first | (rw [hji9] at H; exact H) | (simp only [hji9] at H ⊢; exact H)
      by_cases c10 : 0 ≤ (ji9)
      ·rw [if_pos c10] at H
       have c10b0 := eq_true c10
       have c10b1 : decide (0 ≤ (ji9)) = true := decide_eq_true c10
       clear c10
       obtain ⟨ji11, hji11⟩ : ∃ j_ : Int, (shr .i64 a1 (ji9)) = j_ := ⟨_, rfl⟩
       replace H : (if 0 ≤ x11_1 then (if x11_1 < (x5_1.length : Int) then (spec_l4Model.l0 k1 a1 (x5_1.set (x11_1 : Int).toNat ((Go.bits .and .i64 (ji11) 1) == 1)) (y426.length : Int) (wrap64 (x11_1 + 1))) else (none)) else (none)) = some r := by first | (rw [hji11] at H; exact H) | (simp only [hji11] at H ⊢; exact H)
       have hji11_ : (a1 / 2 ^ min (ji9).toNat 64) = ji11 := hji11
       have hji11z : (ji9) ≤ 64 → (a1 / 2 ^ (ji9).toNat) = ji11 := shr_small hji11
       by_cases c12 : 0 ≤ x11_1
       ·rw [if_pos c12] at H
        have c12b0 : decide (0 ≤ x11_1) = true := decide_eq_true c12
        clear c12
        by_cases c13 : x11_1 < (x5_1.length : Int)
        ·rw [if_pos c13] at H
         have c13b0 : decide (x11_1 < (x5_1.length : Int)) = true := decide_eq_true c13
         (try (have c13hhl5_1 := c13b0; simp only [hl5_1] at c13hhl5_1))
         clear c13
         obtain ⟨y429, hy429⟩ : ∃ y_ : List Bool, y_ = (x5_1.set (x11_1 : Int).toNat ((Go.bits .and .i64 (ji11) 1) == 1)) := ⟨_, rfl⟩
         replace H : (spec_l4Model.l0 k1 a1 y429 (y426.length : Int) (wrap64 (x11_1 + 1))) = some r := by first | (rw [hy429]; with_reducible exact H) | (have H2_ := (Option.bind_some _ _).symm.trans H; rw [hy429]; with_reducible exact H2_) | (have H2_ := (Option.bind_some _ _).symm.trans H; with_reducible exact H2_) | with_reducible exact H | (rw [hy429]; exact H) | exact H
         have Ny429 := am_ hy429
         clear hy429
         have H' := am_ H
         clear H
         have p14 : 0 ≤ (x11_1 : Int) := od_
         have q14 : (x11_1 : Int) < ((x5_1.length : Int) : Int) := od_
         obtain ⟨go14, co14, eo14, gb14, gl14, cl14, HG14⟩ := Kd.R_form HO_5.out (by omega)
         (first | cases eo14 | (injection eo14 with ea_ en_ ec_; (first | subst ea_ | (injection ea_ with ea_; subst ea_)); subst ec_; clear en_))
         have GB14 := am_ gb14
         have GG14 := am_ HG14
         clear gb14 gl14 HG14
         obtain ⟨hx14_0, hf14_0⟩ := Kd.R_celln false HO_5.out (x11_1 : Int) p14 q14
         replace p14 := eq_true p14
         replace q14 := eq_true q14
         have HP15 := Kd.R_putg HO_5.out (x11_1 : Int) ((Go.bits .and .i64 (ji11) 1) == 1)
         go_wp2_with (first | ((with_reducible refine gate_store (t := 4) (p := 22) rfl ?_); refine store_event (t := 4) (p := 22) (v := ?vo_w16) (w1 := (wr.setCell ⟨go14, (x11_1 : Int).toNat, none⟩ (.bool ((Go.bits .and .i64 (ji11) 1) == 1)))) ?hg ?ho ?hn ?hr ?_; (case ho => rfl); (case hg => rfl); (case hn => rfl); (case hr => first | (go_simp; done) | (go_simp; rfl)); intro w16 hw; have hg : wr.grownBy w16 (some go14) := (by rw [hw]; exact HP15.2); have hp_ : Kd.R Kd.bool 4 w16 w.heap.size (fun _ => True) (.slice (some ⟨go14, 0, none⟩) x5_1.length co7) y429 := (by rw [hw, Ny429.out]; exact HP15.1); clear HP15; replace HO_5 := am_ (hp_); replace HB := am_ ((by rw [hw]; exact below_set (HB.out) GB14.out : Below w.heap.size w w16)); clear hg hw hp_))
         (try simp only [← hl5_1])
         go_roundg k1
         case measure => have := HK1.out; omega
         case rel => exact ⟨(y429), (wrap64 (x11_1 + 1)), y53_, H', ⟨by have := HK1.out; omega⟩, ⟨by (try simp only [hl5_1]); (with_reducible repeat (first | apply Kd.R_alloc | apply Kd.R_drewN | apply Kd.R_drew)); exact HO_5.out⟩, ⟨bq_⟩⟩
        ·rw [if_neg c13] at H
         exact absurd H (by simp)
       ·rw [if_neg c12] at H
        exact absurd H (by simp)
      ·rw [if_neg c10] at H
       exact absurd H (by simp)
     ·rw [if_neg c8] at H
      have c8b0 : decide (x11_1 < (y426.length : Int)) = false := decide_eq_false c8
      (try (have c8hhl5_1 := c8b0; simp only [hl5_1] at c8hhl5_1))
      clear c8
      obtain rfl := Option.some.inj H
      go_wp2
      go_ret
      exact ⟨_, by first | rfl | (simp [errW_none, errW_some] <;> rfl) | (simp [*, errW_none, errW_some] <;> rfl), rq_ HO_5.out, bq_⟩
  ·rw [if_neg c4] at H
   exact absurd H (by simp)
 ·rw [if_neg c3] at H
  exact absurd H (by simp)
def spec_l8Inputs.l0 : Nat → List Int → List (S69) → Int → Int → Option (List Int)
 | 0, _, _, _, _ => none
 | k + 1, x3, x6, x7, x8 => if x8 < x7 then (if 0 ≤ x8 then (if x8 < (x6.length : Int) then (if ((rd_T69 x6 x8).f0) = 1 then (if x3.length < 17592186044416 then (spec_l8Inputs.l0 k (x3 ++ [x8]) x6 x7 (wrap64 (x8 + 1))) else (none)) else (spec_l8Inputs.l0 k x3 x6 x7 (wrap64 (x8 + 1)))) else (none)) else (none)) else (some x3)
def spec_l8Inputs.f (k : Nat) (l0 : List (S69)) : Option (List Int) := spec_l8Inputs.l0 k ([] : List Int) l0 (l0.length : Int) 0
set_option maxHeartbeats 8000000 in
set_option maxRecDepth 100000 in
theorem spec_l8Inputs.calls (k : Nat) (A0 : Option Addr) (c0 : Nat) (l0 : List (S69)) (r : List Int) (w : World) (hr0 : Kd.C k69 w A0 l0.length l0) (hc0 : l0.length ≤ c0) (h : spec_l8Inputs.f k l0 = some r) :
  Calls Try.prog 56 #[.slice A0 l0.length c0] w fun e w' => ∃ v0_ : Value, e = .returned (v0_) ∧ Kd.R (Kd.int .i64) 3 w' w.heap.size (fun _ => True) v0_ r ∧ Below w.heap.size w w' := by
 have hu69 := Try.underlying69
 have HR0 := am_ hr0
 have HC0 := am_ hc0
 clear hr0 hc0
 have HB := am_ (Below.refl w.heap.size w)
 have H : (spec_l8Inputs.l0 k ([] : List Int) l0 (l0.length : Int) 0) = some r := h
 clear h
 have H' := am_ H
 clear H
 go_enter Try.func56, Try.ntmps56
 go_wp2
 go_loopg [3, 8] k (fun kq v3 v8 w' => ∃ (x3_1 : List Int) (x8_1 : Int), v8 = .int .i64 x8_1 ∧ Aside0 (spec_l8Inputs.l0 kq x3_1 l0 (l0.length : Int) x8_1 = some r) ∧ Aside0 (kq ≤ k) ∧ Aside0 (Kd.R (Kd.int .i64) 3 w' w.heap.size (fun _ => True) v3 x3_1) ∧ Aside0 (Below w.heap.size w w'))
 case atStart => exact ⟨(([] : List Int)), (0), y53_, H', ⟨Nat.le_refl _⟩, ⟨by first | exact Kd.R_nil _ _ _ _ _ | exact Kd.N_nil _ _ _ _ _ | exact Kd.V_nil _ _ _ _ _ | exact Kd.Q_nil _ _ _ _ _ | exact Kd.S_nil _ _ _ _ _⟩, ⟨bq_⟩⟩
 case round =>
  clear H'
  obtain ⟨x3_1, x8_1, rfl, HA, HK1, HO_3, HB⟩ := hrel
  cases gk with
  | zero => exact absurd HA.out (by simp [spec_l8Inputs.l0])
  | succ k1 =>
   have H := HA.out
   clear HA
   simp only [spec_l8Inputs.l0] at H
   by_cases c2 : x8_1 < (l0.length : Int)
   ·rw [if_pos c2] at H
    have c2b0 : decide (x8_1 < (l0.length : Int)) = true := decide_eq_true c2
    clear c2
    by_cases c3 : 0 ≤ x8_1
    ·rw [if_pos c3] at H
     have c3b0 : decide (0 ≤ x8_1) = true := decide_eq_true c3
     clear c3
     by_cases c4 : x8_1 < (l0.length : Int)
     ·rw [if_pos c4] at H
      have c4b0 : decide (x8_1 < (l0.length : Int)) = true := decide_eq_true c4
      clear c4
      by_cases c5 : ((rd_T69 l0 x8_1).f0) = 1
      ·rw [if_pos c5] at H
       have c5b0 : (((rd_T69 l0 x8_1).f0) == 1) = true := beq_iff_eq.mpr c5
       have c5b1 : (((rd_T69 l0 x8_1).f0) != 1) = false := bne_eq_false_iff_eq.mpr c5
       clear c5
       by_cases c6 : x3_1.length < 17592186044416
       ·rw [if_pos c6] at H
        have LMc6 := am_ c6
        clear c6
        obtain ⟨y432, hy432⟩ : ∃ y_ : List Int, y_ = (x3_1 ++ [x8_1]) := ⟨_, rfl⟩
        replace H : (spec_l8Inputs.l0 k1 y432 l0 (l0.length : Int) (wrap64 (x8_1 + 1))) = some r := by first | (rw [hy432]; with_reducible exact H) | (have H2_ := (Option.bind_some _ _).symm.trans H; rw [hy432]; with_reducible exact H2_) | (have H2_ := (Option.bind_some _ _).symm.trans H; with_reducible exact H2_) | with_reducible exact H | (rw [hy432]; exact H) | exact H
        have Ny432 := am_ hy432
        clear hy432
        have H' := am_ H
        clear H
        have p430 : 0 ≤ (x8_1 : Int) := od_
        have q430 : x8_1 < (l0.length : Int) := od_
        obtain ⟨ad430, e430, hx430_0, hx430_1, hx430_2⟩ := at_T69 HR0.out x8_1 p430 q430
        cases e430
        replace hx430_0 := (HB.out.cell (World.block_lt_of_cell? w _ hx430_0)).trans hx430_0
        replace hx430_1 := (HB.out.cell (World.block_lt_of_cell? w _ hx430_1)).trans hx430_1
        replace hx430_2 := (HB.out.cell (World.block_lt_of_cell? w _ hx430_2)).trans hx430_2
        replace p430 := eq_true p430
        replace q430 := eq_true q430
        go_wp2_with (first | ((with_reducible refine gate_dst (N := 5) rfl ?_); refine boxq_ (N := 5) (cs := #[.int .i64 0, .int .i64 0, .int .i64 0]) (t := 69) ?_; intro gb431 hg w7 hbox hb; replace HO_3 := am_ (Kd.R_below (rq_ HO_3.out) hb); have BK431 := am_ (hbox); have GW431 := gz_ hg; have GE431 := gz_ hg; replace HB := bs_ hb; clear hb hbox hg; have hcz8_0 := cq_ BK431.out 0 (.int .i64 0); have hcz8_1 := cq_ BK431.out 1 (.int .i64 0); have hcz8_2 := cq_ BK431.out 2 (.int .i64 0); have hfz8_0 := blk_frozen BK431.out 0; have hfz8_1 := blk_frozen BK431.out 1; have hfz8_2 := blk_frozen BK431.out 2) | ((with_reducible refine gate_builtin (b := .append) (xs := #[.tmp 16, .tmp 18]) rfl ?_); at_builtin; refine Kd.R_append (Kd.int .i64) (w0 := w) w.heap.size rfl (.tmp 16) (.tmp 18) 43 3 (.int .i64 0) 8 rfl Try.underlying43 info3 rfl (by decide) (by omega) u3 x3_1 x8_1 [.int .i64 x8_1] (fun _ => True) (fun _ => False) rfl y54_ ?aP (fun _ hk => hk.elim) ?aF ?aO ?aB ?aS ?aL ?_; (case aP => exact rfl); (case aB => exact (bq_)); (case aF => exact (fun _ _ => trivial)); (case aO => exact (rq_ (Kd.R_mono (Kd.R_far (p := ⟨gb431, 2, none⟩) (Kd.R_far (p := ⟨gb431, 1, none⟩) (Kd.R_far (p := ⟨gb431, 0, none⟩) (Kd.R_types HO_3.out BK431.out (by decide)) (fun _ hk => hk.2) (.int .i64 ((rd_T69 l0 x8_1).f0))) (fun _ hk => hk.2) (.int .i64 ((rd_T69 l0 x8_1).f1))) (fun _ hk => hk.2) (.int .i64 ((rd_T69 l0 x8_1).f2))) (fun _ hk => trivial)))); (case aS => exact (below_size (bq_))); (case aL => have := LMc6.out; omega); intro v433 w9 ho hb hg hat; rw [← Ny432.out] at ho; replace BK431 := am_ (blk_grown (g := gb431) (o := .cells #[.int .i64 ((rd_T69 l0 x8_1).f0), .int .i64 ((rd_T69 l0 x8_1).f1), .int .i64 ((rd_T69 l0 x8_1).f2)] 69 (0, 0)) (bu_ BK431.out) hg (Kd.R_ne HO_3.out BK431.out (by decide))); replace HB := am_ (hb); have HO434 := am_ (ho); clear HO_3; clear ho hb hg hat))
        go_roundg k1
        case measure => have := HK1.out; omega
        case rel => exact ⟨(y432), (wrap64 (x8_1 + 1)), y53_, H', ⟨by have := HK1.out; omega⟩, ⟨rq_ HO434.out⟩, ⟨bq_⟩⟩
       ·rw [if_neg c6] at H
        exact absurd H (by simp)
      ·rw [if_neg c5] at H
       have c5b0 : (((rd_T69 l0 x8_1).f0) == 1) = false := beq_eq_false_iff_ne.mpr c5
       have c5b1 : (((rd_T69 l0 x8_1).f0) != 1) = true := bne_iff_ne.mpr c5
       have H' := am_ H
       clear H
       have p430 : 0 ≤ (x8_1 : Int) := od_
       have q430 : x8_1 < (l0.length : Int) := od_
       obtain ⟨ad430, e430, hx430_0, hx430_1, hx430_2⟩ := at_T69 HR0.out x8_1 p430 q430
       cases e430
       replace hx430_0 := (HB.out.cell (World.block_lt_of_cell? w _ hx430_0)).trans hx430_0
       replace hx430_1 := (HB.out.cell (World.block_lt_of_cell? w _ hx430_1)).trans hx430_1
       replace hx430_2 := (HB.out.cell (World.block_lt_of_cell? w _ hx430_2)).trans hx430_2
       replace p430 := eq_true p430
       replace q430 := eq_true q430
       go_wp2_with (first | ((with_reducible refine gate_dst (N := 5) rfl ?_); refine boxq_ (N := 5) (cs := #[.int .i64 0, .int .i64 0, .int .i64 0]) (t := 69) ?_; intro gb431 hg w10 hbox hb; replace HO_3 := am_ (Kd.R_below (rq_ HO_3.out) hb); have BK431 := am_ (hbox); have GW431 := gz_ hg; have GE431 := gz_ hg; replace HB := bs_ hb; clear hb hbox hg; have hcz11_0 := cq_ BK431.out 0 (.int .i64 0); have hcz11_1 := cq_ BK431.out 1 (.int .i64 0); have hcz11_2 := cq_ BK431.out 2 (.int .i64 0); have hfz11_0 := blk_frozen BK431.out 0; have hfz11_1 := blk_frozen BK431.out 1; have hfz11_2 := blk_frozen BK431.out 2))
       go_roundg k1
       case measure => have := HK1.out; omega
       case rel => exact ⟨(x3_1), (wrap64 (x8_1 + 1)), y53_, H', ⟨by have := HK1.out; omega⟩, ⟨rq_ (Kd.R_mono (Kd.R_far (p := ⟨gb431, 2, none⟩) (Kd.R_far (p := ⟨gb431, 1, none⟩) (Kd.R_far (p := ⟨gb431, 0, none⟩) (Kd.R_types HO_3.out BK431.out (by decide)) (fun _ hk => hk.2) (.int .i64 ((rd_T69 l0 x8_1).f0))) (fun _ hk => hk.2) (.int .i64 ((rd_T69 l0 x8_1).f1))) (fun _ hk => hk.2) (.int .i64 ((rd_T69 l0 x8_1).f2))) (fun _ hk => trivial))⟩, ⟨bq_⟩⟩
     ·rw [if_neg c4] at H
      exact absurd H (by simp)
    ·rw [if_neg c3] at H
     exact absurd H (by simp)
   ·rw [if_neg c2] at H
    have c2b0 : decide (x8_1 < (l0.length : Int)) = false := decide_eq_false c2
    clear c2
    obtain rfl := Option.some.inj H
    go_wp2
    go_ret
    exact ⟨_, by first | rfl | (simp [errW_none, errW_some] <;> rfl) | (simp [*, errW_none, errW_some] <;> rfl), rq_ HO_3.out, bq_⟩
def spec_l8Eval.l0 : Nat → List Bool → List Bool → Int → List (S69) → Int → Int → Option (List Bool)
 | 0, _, _, _, _, _, _ => none
 | k + 1, x1, x5, x6, x9, x10, x11 => if x11 < x10 then (if 0 ≤ x11 then (if x11 < (x9.length : Int) then (if ((rd_T69 x9 x11).f0) = 1 then (if 0 ≤ x6 then (if x6 < (x1.length : Int) then (if x5.length < 140737488355328 then (spec_l8Eval.l0 k x1 (x5 ++ [rdOf false x1 x6]) (wrap64 (x6 + 1)) x9 x10 (wrap64 (x11 + 1))) else (none)) else (none)) else (none)) else (if ((rd_T69 x9 x11).f0) = 2 then (if 0 ≤ ((rd_T69 x9 x11).f1) then (if ((rd_T69 x9 x11).f1) < (x5.length : Int) then (if x5.length < 140737488355328 then (spec_l8Eval.l0 k x1 (x5 ++ [!(rdOf false x5 ((rd_T69 x9 x11).f1))]) x6 x9 x10 (wrap64 (x11 + 1))) else (none)) else (none)) else (none)) else (if ((rd_T69 x9 x11).f0) = 3 then (if 0 ≤ ((rd_T69 x9 x11).f1) then (if ((rd_T69 x9 x11).f1) < (x5.length : Int) then (if rdOf false x5 ((rd_T69 x9 x11).f1) = true then (if 0 ≤ ((rd_T69 x9 x11).f2) then (if ((rd_T69 x9 x11).f2) < (x5.length : Int) then (if x5.length < 140737488355328 then (spec_l8Eval.l0 k x1 (x5 ++ [rdOf false x5 ((rd_T69 x9 x11).f2)]) x6 x9 x10 (wrap64 (x11 + 1))) else (none)) else (none)) else (none)) else (if x5.length < 140737488355328 then (spec_l8Eval.l0 k x1 (x5 ++ [false]) x6 x9 x10 (wrap64 (x11 + 1))) else (none))) else (none)) else (none)) else (if ((rd_T69 x9 x11).f0) = 4 then (if 0 ≤ ((rd_T69 x9 x11).f1) then (if ((rd_T69 x9 x11).f1) < (x5.length : Int) then (if rdOf false x5 ((rd_T69 x9 x11).f1) = true then (if x5.length < 140737488355328 then (spec_l8Eval.l0 k x1 (x5 ++ [true]) x6 x9 x10 (wrap64 (x11 + 1))) else (none)) else (if 0 ≤ ((rd_T69 x9 x11).f2) then (if ((rd_T69 x9 x11).f2) < (x5.length : Int) then (if x5.length < 140737488355328 then (spec_l8Eval.l0 k x1 (x5 ++ [rdOf false x5 ((rd_T69 x9 x11).f2)]) x6 x9 x10 (wrap64 (x11 + 1))) else (none)) else (none)) else (none))) else (none)) else (none)) else (if 0 ≤ ((rd_T69 x9 x11).f1) then (if ((rd_T69 x9 x11).f1) < (x5.length : Int) then (if 0 ≤ ((rd_T69 x9 x11).f2) then (if ((rd_T69 x9 x11).f2) < (x5.length : Int) then (if x5.length < 140737488355328 then (spec_l8Eval.l0 k x1 (x5 ++ [((rdOf false x5 ((rd_T69 x9 x11).f1)) != (rdOf false x5 ((rd_T69 x9 x11).f2)))]) x6 x9 x10 (wrap64 (x11 + 1))) else (none)) else (none)) else (none)) else (none)) else (none)))))) else (none)) else (none)) else (some x5)
def spec_l8Eval.f (k : Nat) (l0 : List (S69)) (l1 : List Bool) : Option (List Bool) := spec_l8Eval.l0 k l1 ([] : List Bool) 0 l0 (l0.length : Int) 0
def spec_l8Eval.T7 : Bool × List (List Nat × List Nat) := (true, [([], []), ([], []), ([], []), ([2], [2]), ([1, 3], [1, 3]), ([4], [4]), ([], []), ([], []), ([7], [7]), ([6, 8], [6, 8]), ([9], [9]), ([5, 10], [5, 10]), ([11], [11]), ([0, 12], [0, 12]), ([13, 13, 0, 1, 2, 3, 4, 5, 6, 7, 8, 9, 10, 11, 12, 13], [0, 1, 6, 13])])
def spec_l8Eval.B7 : List Nat := [0, 0, 0, 4, 14, 30, 0, 0, 128, 448, 960, 2046, 4094, 8191, 16383]
theorem spec_l8Eval.tab7 : rtab .any (opsOf Try.f57 7) = spec_l8Eval.T7 := by kernel_rfl
theorem spec_l8Eval.bits7 : waitsOk spec_l8Eval.T7.2 spec_l8Eval.B7 = true := by kernel_rfl
set_option maxHeartbeats 8000000 in
set_option maxRecDepth 100000 in
theorem spec_l8Eval.calls (k : Nat) (A0 : Option Addr) (c0 : Nat) (l0 : List (S69)) (A1 : Option Addr) (c1 : Nat) (l1 : List Bool) (r : List Bool) (w : World) (hr0 : Kd.C k69 w A0 l0.length l0) (hc0 : l0.length ≤ c0) (hr1 : Kd.C Kd.bool w A1 l1.length l1) (hc1 : l1.length ≤ c1) (h : spec_l8Eval.f k l0 l1 = some r) :
  Calls Try.prog 57 #[.slice A0 l0.length c0, .slice A1 l1.length c1] w fun e w' => ∃ v0_ : Value, e = .returned (v0_) ∧ Kd.R Kd.bool 4 w' w.heap.size (fun _ => True) v0_ r ∧ Below w.heap.size w w' := by
 have hu69 := Try.underlying69
 have HR0 := am_ hr0
 have HC0 := am_ hc0
 clear hr0 hc0
 have HR1 := am_ hr1
 have HC1 := am_ hc1
 clear hr1 hc1
 have HB := am_ (Below.refl w.heap.size w)
 have H : (spec_l8Eval.l0 k l1 ([] : List Bool) 0 l0 (l0.length : Int) 0) = some r := h
 clear h
 have H' := am_ H
 clear H
 go_enter Try.func57, Try.ntmps57
 go_wp2
 go_loopg [5, 6, 11] k (fun kq v5 v6 v11 w' => ∃ (x5_1 : List Bool) (x6_1 : Int) (x11_1 : Int), v6 = .int .i64 x6_1 ∧ v11 = .int .i64 x11_1 ∧ Aside0 (spec_l8Eval.l0 kq l1 x5_1 x6_1 l0 (l0.length : Int) x11_1 = some r) ∧ Aside0 (kq ≤ k) ∧ Aside0 (Kd.R Kd.bool 4 w' w.heap.size (fun _ => True) v5 x5_1) ∧ Aside0 (Below w.heap.size w w'))
 case atStart => exact ⟨(([] : List Bool)), (0), (0), y53_, y53_, H', ⟨Nat.le_refl _⟩, ⟨by first | exact Kd.R_nil _ _ _ _ _ | exact Kd.N_nil _ _ _ _ _ | exact Kd.V_nil _ _ _ _ _ | exact Kd.Q_nil _ _ _ _ _ | exact Kd.S_nil _ _ _ _ _⟩, ⟨bq_⟩⟩
 case round =>
  clear H'
  try clear c1
  try clear p2
  obtain ⟨x5_1, x6_1, x11_1, rfl, rfl, HA, HK1, HO_5, HB⟩ := hrel
  cases gk with
  | zero => exact absurd HA.out (by simp [spec_l8Eval.l0])
  | succ k1 =>
   have H := HA.out
   clear HA
   simp only [spec_l8Eval.l0] at H
   by_cases c3 : x11_1 < (l0.length : Int)
   ·rw [if_pos c3] at H
    have c3b0 : decide (x11_1 < (l0.length : Int)) = true := decide_eq_true c3
    clear c3
    by_cases c4 : 0 ≤ x11_1
    ·rw [if_pos c4] at H
     have c4b0 : decide (0 ≤ x11_1) = true := decide_eq_true c4
     clear c4
     by_cases c5 : x11_1 < (l0.length : Int)
     ·rw [if_pos c5] at H
      have c5b0 : decide (x11_1 < (l0.length : Int)) = true := decide_eq_true c5
      clear c5
      by_cases c6 : ((rd_T69 l0 x11_1).f0) = 1
      ·rw [if_pos c6] at H
       have c6b0 : (((rd_T69 l0 x11_1).f0) == 1) = true := beq_iff_eq.mpr c6
       have c6b1 : (((rd_T69 l0 x11_1).f0) != 1) = false := bne_eq_false_iff_eq.mpr c6
       clear c6
       by_cases c7 : 0 ≤ x6_1
       ·rw [if_pos c7] at H
        have c7b0 : decide (0 ≤ x6_1) = true := decide_eq_true c7
        clear c7
        by_cases c8 : x6_1 < (l1.length : Int)
        ·rw [if_pos c8] at H
         have c8b0 : decide (x6_1 < (l1.length : Int)) = true := decide_eq_true c8
         clear c8
         by_cases c9 : x5_1.length < 140737488355328
         ·rw [if_pos c9] at H
          have LMc9 := am_ c9
          clear c9
          obtain ⟨y438, hy438⟩ : ∃ y_ : List Bool, y_ = (x5_1 ++ [rdOf false l1 x6_1]) := ⟨_, rfl⟩
          replace H : (spec_l8Eval.l0 k1 l1 y438 (wrap64 (x6_1 + 1)) l0 (l0.length : Int) (wrap64 (x11_1 + 1))) = some r := by first | (rw [hy438]; with_reducible exact H) | (have H2_ := (Option.bind_some _ _).symm.trans H; rw [hy438]; with_reducible exact H2_) | (have H2_ := (Option.bind_some _ _).symm.trans H; with_reducible exact H2_) | with_reducible exact H | (rw [hy438]; exact H) | exact H
          have Ny438 := am_ hy438
          clear hy438
          have H' := am_ H
          clear H
          have p435 : 0 ≤ (x11_1 : Int) := od_
          have q435 : x11_1 < (l0.length : Int) := od_
          obtain ⟨ad435, e435, hx435_0, hx435_1, hx435_2⟩ := at_T69 HR0.out x11_1 p435 q435
          cases e435
          replace hx435_0 := (HB.out.cell (World.block_lt_of_cell? w _ hx435_0)).trans hx435_0
          replace hx435_1 := (HB.out.cell (World.block_lt_of_cell? w _ hx435_1)).trans hx435_1
          replace hx435_2 := (HB.out.cell (World.block_lt_of_cell? w _ hx435_2)).trans hx435_2
          replace p435 := eq_true p435
          replace q435 := eq_true q435
          go_wp2_with (first | ((with_reducible refine gate_dst (N := 8) rfl ?_); refine boxq_ (N := 8) (cs := #[.int .i64 0, .int .i64 0, .int .i64 0]) (t := 69) ?_; intro gb436 hg w10 hbox hb; replace HO_5 := am_ (Kd.R_below (rq_ HO_5.out) hb); have BK436 := am_ (hbox); have GW436 := gz_ hg; have GE436 := gz_ hg; replace HB := bs_ hb; clear hb hbox hg; have hcz11_0 := cq_ BK436.out 0 (.int .i64 0); have hcz11_1 := cq_ BK436.out 1 (.int .i64 0); have hcz11_2 := cq_ BK436.out 2 (.int .i64 0); have hfz11_0 := blk_frozen BK436.out 0; have hfz11_1 := blk_frozen BK436.out 1; have hfz11_2 := blk_frozen BK436.out 2; have p437 : 0 ≤ (x6_1 : Int) := od_; have q437 : x6_1 < (l1.length : Int) := od_; obtain ⟨ad437, e437, hx437_0⟩ := Kd.at_bool HR1.out x6_1 p437 q437; cases e437; have hn437_0 : ad437.block ≠ gb436 := Nat.ne_of_lt (Nat.lt_of_lt_of_le y50_ GW436.out); have hn437_1 : ad437.block ≠ gb436 := Nat.ne_of_lt (Nat.lt_of_lt_of_le y50_ GW436.out); have hn437_2 : ad437.block ≠ gb436 := Nat.ne_of_lt (Nat.lt_of_lt_of_le y50_ GW436.out); replace hx437_0 := (HB.out.cell (World.block_lt_of_cell? w _ hx437_0)).trans hx437_0; replace hx437_0 := (cell_far (p := ⟨gb436, 0, none⟩) (by first | (rw [add_block]; exact hn437_0) | (show (Addr.add _ _).block ≠ _; rw [add_block]; exact hn437_0) | exact hn437_0) (.int .i64 ((rd_T69 l0 x11_1).f0))).trans hx437_0; replace hx437_0 := (cell_far (p := ⟨gb436, 1, none⟩) (by first | (rw [add_block]; exact hn437_1) | (show (Addr.add _ _).block ≠ _; rw [add_block]; exact hn437_1) | exact hn437_1) (.int .i64 ((rd_T69 l0 x11_1).f1))).trans hx437_0; replace hx437_0 := (cell_far (p := ⟨gb436, 2, none⟩) (by first | (rw [add_block]; exact hn437_2) | (show (Addr.add _ _).block ≠ _; rw [add_block]; exact hn437_2) | exact hn437_2) (.int .i64 ((rd_T69 l0 x11_1).f2))).trans hx437_0; clear hn437_0; clear hn437_1; clear hn437_2; replace p437 := eq_true p437; replace q437 := eq_true q437) | ((with_reducible refine gate_builtin (b := .append) (xs := #[.tmp 33, .tmp 38]) rfl ?_); at_builtin; refine Kd.R_append Kd.bool (w0 := w) w.heap.size rfl (.tmp 33) (.tmp 38) 37 4 (.bool false) 1 rfl Try.underlying37 info4 rfl (by decide) (by omega) u5 x5_1 (rdOf false l1 x6_1) [.bool (rdOf false l1 x6_1)] (fun _ => True) (fun _ => False) rfl y54_ ?aP (fun _ hk => hk.elim) ?aF ?aO ?aB ?aS ?aL ?_; (case aP => exact rfl); (case aB => exact (bq_)); (case aF => exact (fun _ _ => trivial)); (case aO => exact (rq_ (Kd.R_mono (Kd.R_far (p := ⟨gb436, 2, none⟩) (Kd.R_far (p := ⟨gb436, 1, none⟩) (Kd.R_far (p := ⟨gb436, 0, none⟩) (Kd.R_types HO_5.out BK436.out (by decide)) (fun _ hk => hk.2) (.int .i64 ((rd_T69 l0 x11_1).f0))) (fun _ hk => hk.2) (.int .i64 ((rd_T69 l0 x11_1).f1))) (fun _ hk => hk.2) (.int .i64 ((rd_T69 l0 x11_1).f2))) (fun _ hk => trivial)))); (case aS => exact (below_size (bq_))); (case aL => have := LMc9.out; omega); intro v439 w12 ho hb hg hat; rw [← Ny438.out] at ho; replace BK436 := am_ (blk_grown (g := gb436) (o := .cells #[.int .i64 ((rd_T69 l0 x11_1).f0), .int .i64 ((rd_T69 l0 x11_1).f1), .int .i64 ((rd_T69 l0 x11_1).f2)] 69 (0, 0)) (bu_ BK436.out) hg (Kd.R_ne HO_5.out BK436.out (by decide))); replace HB := am_ (hb); have HO440 := am_ (ho); clear HO_5; clear ho hb hg hat))
          go_roundg k1
          case measure => have := HK1.out; omega
          case rel => exact ⟨(y438), (wrap64 (x6_1 + 1)), (wrap64 (x11_1 + 1)), y53_, y53_, H', ⟨by have := HK1.out; omega⟩, ⟨rq_ HO440.out⟩, ⟨bq_⟩⟩
         ·rw [if_neg c9] at H
          exact absurd H (by simp)
        ·rw [if_neg c8] at H
         exact absurd H (by simp)
       ·rw [if_neg c7] at H
        exact absurd H (by simp)
      ·rw [if_neg c6] at H
       have c6b0 : (((rd_T69 l0 x11_1).f0) == 1) = false := beq_eq_false_iff_ne.mpr c6
       have c6b1 : (((rd_T69 l0 x11_1).f0) != 1) = true := bne_iff_ne.mpr c6
       by_cases c13 : ((rd_T69 l0 x11_1).f0) = 2
       ·rw [if_pos c13] at H
        have c13b0 : (((rd_T69 l0 x11_1).f0) == 2) = true := beq_iff_eq.mpr c13
        have c13b1 : (((rd_T69 l0 x11_1).f0) != 2) = false := bne_eq_false_iff_eq.mpr c13
        clear c13
        by_cases c14 : 0 ≤ ((rd_T69 l0 x11_1).f1)
        ·rw [if_pos c14] at H
         have c14b0 : decide (0 ≤ ((rd_T69 l0 x11_1).f1)) = true := decide_eq_true c14
         clear c14
         by_cases c15 : ((rd_T69 l0 x11_1).f1) < (x5_1.length : Int)
         ·rw [if_pos c15] at H
          have c15b0 : decide (((rd_T69 l0 x11_1).f1) < (x5_1.length : Int)) = true := decide_eq_true c15
          clear c15
          by_cases c16 : x5_1.length < 140737488355328
          ·rw [if_pos c16] at H
           have LMc16 := am_ c16
           clear c16
           obtain ⟨y442, hy442⟩ : ∃ y_ : List Bool, y_ = (x5_1 ++ [!(rdOf false x5_1 ((rd_T69 l0 x11_1).f1))]) := ⟨_, rfl⟩
           replace H : (spec_l8Eval.l0 k1 l1 y442 x6_1 l0 (l0.length : Int) (wrap64 (x11_1 + 1))) = some r := by first | (rw [hy442]; with_reducible exact H) | (have H2_ := (Option.bind_some _ _).symm.trans H; rw [hy442]; with_reducible exact H2_) | (have H2_ := (Option.bind_some _ _).symm.trans H; with_reducible exact H2_) | with_reducible exact H | (rw [hy442]; exact H) | exact H
           have Ny442 := am_ hy442
           clear hy442
           have H' := am_ H
           clear H
           have p435 : 0 ≤ (x11_1 : Int) := od_
           have q435 : x11_1 < (l0.length : Int) := od_
           obtain ⟨ad435, e435, hx435_0, hx435_1, hx435_2⟩ := at_T69 HR0.out x11_1 p435 q435
           cases e435
           replace hx435_0 := (HB.out.cell (World.block_lt_of_cell? w _ hx435_0)).trans hx435_0
           replace hx435_1 := (HB.out.cell (World.block_lt_of_cell? w _ hx435_1)).trans hx435_1
           replace hx435_2 := (HB.out.cell (World.block_lt_of_cell? w _ hx435_2)).trans hx435_2
           replace p435 := eq_true p435
           replace q435 := eq_true q435
           go_wp2_with (first | ((with_reducible refine gate_dst (N := 8) rfl ?_); refine boxq_ (N := 8) (cs := #[.int .i64 0, .int .i64 0, .int .i64 0]) (t := 69) ?_; intro gb436 hg w17 hbox hb; replace HO_5 := am_ (Kd.R_below (rq_ HO_5.out) hb); have BK436 := am_ (hbox); have GW436 := gz_ hg; have GE436 := gz_ hg; replace HB := bs_ hb; clear hb hbox hg; have hcz18_0 := cq_ BK436.out 0 (.int .i64 0); have hcz18_1 := cq_ BK436.out 1 (.int .i64 0); have hcz18_2 := cq_ BK436.out 2 (.int .i64 0); have hfz18_0 := blk_frozen BK436.out 0; have hfz18_1 := blk_frozen BK436.out 1; have hfz18_2 := blk_frozen BK436.out 2; obtain ⟨Ao19, co19, eo19⟩ := Kd.R_slice HO_5.out; subst eo19; have p441 : 0 ≤ (((rd_T69 l0 x11_1).f1) : Int) := od_; have q441 : ((rd_T69 l0 x11_1).f1) < (x5_1.length : Int) := od_; obtain ⟨ad441, e441, hx441_0⟩ := Kd.at_bool (Kd.R_reads' HO_5.out).2.2 ((rd_T69 l0 x11_1).f1) p441 q441; cases e441; have hn441_0 : ad441.block ≠ gb436 := Kd.own_blk (Kd.R_ne HO_5.out BK436.out (by decide)); have hn441_1 : ad441.block ≠ gb436 := Kd.own_blk (Kd.R_ne HO_5.out BK436.out (by decide)); have hn441_2 : ad441.block ≠ gb436 := Kd.own_blk (Kd.R_ne HO_5.out BK436.out (by decide)); replace hx441_0 := (cell_far (p := ⟨gb436, 0, none⟩) (by first | (rw [add_block]; exact hn441_0) | (show (Addr.add _ _).block ≠ _; rw [add_block]; exact hn441_0) | exact hn441_0) (.int .i64 ((rd_T69 l0 x11_1).f0))).trans hx441_0; replace hx441_0 := (cell_far (p := ⟨gb436, 1, none⟩) (by first | (rw [add_block]; exact hn441_1) | (show (Addr.add _ _).block ≠ _; rw [add_block]; exact hn441_1) | exact hn441_1) (.int .i64 ((rd_T69 l0 x11_1).f1))).trans hx441_0; replace hx441_0 := (cell_far (p := ⟨gb436, 2, none⟩) (by first | (rw [add_block]; exact hn441_2) | (show (Addr.add _ _).block ≠ _; rw [add_block]; exact hn441_2) | exact hn441_2) (.int .i64 ((rd_T69 l0 x11_1).f2))).trans hx441_0; clear hn441_0; clear hn441_1; clear hn441_2; replace p441 := eq_true p441; replace q441 := eq_true q441) | ((with_reducible refine gate_builtin (b := .append) (xs := #[.tmp 44, .tmp 51]) rfl ?_); at_builtin; refine Kd.R_append Kd.bool (w0 := w) w.heap.size rfl (.tmp 44) (.tmp 51) 37 4 (.bool false) 1 rfl Try.underlying37 info4 rfl (by decide) (by omega) (.slice (some ad441) x5_1.length co19) x5_1 (!(rdOf false x5_1 ((rd_T69 l0 x11_1).f1))) [.bool (!(rdOf false x5_1 ((rd_T69 l0 x11_1).f1)))] (fun _ => True) (fun _ => False) rfl y54_ ?aP (fun _ hk => hk.elim) ?aF ?aO ?aB ?aS ?aL ?_; (case aP => exact rfl); (case aB => exact (bq_)); (case aF => exact (fun _ _ => trivial)); (case aO => exact (rq_ (Kd.R_mono (Kd.R_far (p := ⟨gb436, 2, none⟩) (Kd.R_far (p := ⟨gb436, 1, none⟩) (Kd.R_far (p := ⟨gb436, 0, none⟩) (Kd.R_types HO_5.out BK436.out (by decide)) (fun _ hk => hk.2) (.int .i64 ((rd_T69 l0 x11_1).f0))) (fun _ hk => hk.2) (.int .i64 ((rd_T69 l0 x11_1).f1))) (fun _ hk => hk.2) (.int .i64 ((rd_T69 l0 x11_1).f2))) (fun _ hk => trivial)))); (case aS => exact (below_size (bq_))); (case aL => have := LMc16.out; omega); intro v443 w20 ho hb hg hat; rw [← Ny442.out] at ho; replace BK436 := am_ (blk_grown (g := gb436) (o := .cells #[.int .i64 ((rd_T69 l0 x11_1).f0), .int .i64 ((rd_T69 l0 x11_1).f1), .int .i64 ((rd_T69 l0 x11_1).f2)] 69 (0, 0)) (bu_ BK436.out) hg (Kd.R_ne HO_5.out BK436.out (by decide))); replace HB := am_ (hb); have HO444 := am_ (ho); clear HO_5; clear ho hb hg hat))
           go_roundg k1
           case measure => have := HK1.out; omega
           case rel => exact ⟨(y442), (x6_1), (wrap64 (x11_1 + 1)), y53_, y53_, H', ⟨by have := HK1.out; omega⟩, ⟨rq_ HO444.out⟩, ⟨bq_⟩⟩
          ·rw [if_neg c16] at H
           exact absurd H (by simp)
         ·rw [if_neg c15] at H
          exact absurd H (by simp)
        ·rw [if_neg c14] at H
         exact absurd H (by simp)
       ·rw [if_neg c13] at H
        have c13b0 : (((rd_T69 l0 x11_1).f0) == 2) = false := beq_eq_false_iff_ne.mpr c13
        have c13b1 : (((rd_T69 l0 x11_1).f0) != 2) = true := bne_iff_ne.mpr c13
        by_cases c21 : ((rd_T69 l0 x11_1).f0) = 3
        ·rw [if_pos c21] at H
         have c21b0 : (((rd_T69 l0 x11_1).f0) == 3) = true := beq_iff_eq.mpr c21
         have c21b1 : (((rd_T69 l0 x11_1).f0) != 3) = false := bne_eq_false_iff_eq.mpr c21
         clear c21
         by_cases c22 : 0 ≤ ((rd_T69 l0 x11_1).f1)
         ·rw [if_pos c22] at H
          have c22b0 : decide (0 ≤ ((rd_T69 l0 x11_1).f1)) = true := decide_eq_true c22
          clear c22
          by_cases c23 : ((rd_T69 l0 x11_1).f1) < (x5_1.length : Int)
          ·rw [if_pos c23] at H
           have c23b0 : decide (((rd_T69 l0 x11_1).f1) < (x5_1.length : Int)) = true := decide_eq_true c23
           clear c23
           obtain ⟨bq24, hbq24⟩ : ∃ b_ : Bool, b_ = (rdOf false x5_1 ((rd_T69 l0 x11_1).f1)) := ⟨_, rfl⟩
           replace H : (if bq24 = true then (if 0 ≤ ((rd_T69 l0 x11_1).f2) then (if ((rd_T69 l0 x11_1).f2) < (x5_1.length : Int) then (if x5_1.length < 140737488355328 then (spec_l8Eval.l0 k1 l1 (x5_1 ++ [rdOf false x5_1 ((rd_T69 l0 x11_1).f2)]) x6_1 l0 (l0.length : Int) (wrap64 (x11_1 + 1))) else (none)) else (none)) else (none)) else (if x5_1.length < 140737488355328 then (spec_l8Eval.l0 k1 l1 (x5_1 ++ [false]) x6_1 l0 (l0.length : Int) (wrap64 (x11_1 + 1))) else (none))) = some r := by rw [← hbq24] at H; exact H
           have Nbq24 := am_ hbq24
           clear hbq24
           by_cases c25 : bq24 = true
           ·subst c25
            have H1 : (if 0 ≤ ((rd_T69 l0 x11_1).f2) then (if ((rd_T69 l0 x11_1).f2) < (x5_1.length : Int) then (if x5_1.length < 140737488355328 then (spec_l8Eval.l0 k1 l1 (x5_1 ++ [rdOf false x5_1 ((rd_T69 l0 x11_1).f2)]) x6_1 l0 (l0.length : Int) (wrap64 (x11_1 + 1))) else (none)) else (none)) else (none)) = some r := by rw [if_pos rfl] at H; exact H
            clear H
            have H := H1
            clear H1
            by_cases c26 : 0 ≤ ((rd_T69 l0 x11_1).f2)
            ·rw [if_pos c26] at H
             have c26b0 : decide (0 ≤ ((rd_T69 l0 x11_1).f2)) = true := decide_eq_true c26
             clear c26
             by_cases c27 : ((rd_T69 l0 x11_1).f2) < (x5_1.length : Int)
             ·rw [if_pos c27] at H
              have c27b0 : decide (((rd_T69 l0 x11_1).f2) < (x5_1.length : Int)) = true := decide_eq_true c27
              clear c27
              by_cases c28 : x5_1.length < 140737488355328
              ·rw [if_pos c28] at H
               have LMc28 := am_ c28
               clear c28
               obtain ⟨y447, hy447⟩ : ∃ y_ : List Bool, y_ = (x5_1 ++ [rdOf false x5_1 ((rd_T69 l0 x11_1).f2)]) := ⟨_, rfl⟩
               replace H : (spec_l8Eval.l0 k1 l1 y447 x6_1 l0 (l0.length : Int) (wrap64 (x11_1 + 1))) = some r := by first | (rw [hy447]; with_reducible exact H) | (have H2_ := (Option.bind_some _ _).symm.trans H; rw [hy447]; with_reducible exact H2_) | (have H2_ := (Option.bind_some _ _).symm.trans H; with_reducible exact H2_) | with_reducible exact H | (rw [hy447]; exact H) | exact H
               have Ny447 := am_ hy447
               clear hy447
               have H' := am_ H
               clear H
               have p435 : 0 ≤ (x11_1 : Int) := od_
               have q435 : x11_1 < (l0.length : Int) := od_
               obtain ⟨ad435, e435, hx435_0, hx435_1, hx435_2⟩ := at_T69 HR0.out x11_1 p435 q435
               cases e435
               replace hx435_0 := (HB.out.cell (World.block_lt_of_cell? w _ hx435_0)).trans hx435_0
               replace hx435_1 := (HB.out.cell (World.block_lt_of_cell? w _ hx435_1)).trans hx435_1
               replace hx435_2 := (HB.out.cell (World.block_lt_of_cell? w _ hx435_2)).trans hx435_2
               replace p435 := eq_true p435
               replace q435 := eq_true q435
               go_wp2_with (first | ((with_reducible refine gate_dst (N := 8) rfl ?_); refine boxq_ (N := 8) (cs := #[.int .i64 0, .int .i64 0, .int .i64 0]) (t := 69) ?_; intro gb436 hg w29 hbox hb; replace HO_5 := am_ (Kd.R_below (rq_ HO_5.out) hb); have BK436 := am_ (hbox); have GW436 := gz_ hg; have GE436 := gz_ hg; replace HB := bs_ hb; clear hb hbox hg; have hcz30_0 := cq_ BK436.out 0 (.int .i64 0); have hcz30_1 := cq_ BK436.out 1 (.int .i64 0); have hcz30_2 := cq_ BK436.out 2 (.int .i64 0); have hfz30_0 := blk_frozen BK436.out 0; have hfz30_1 := blk_frozen BK436.out 1; have hfz30_2 := blk_frozen BK436.out 2; obtain ⟨Ao31, co31, eo31⟩ := Kd.R_slice HO_5.out; subst eo31; have p445 : 0 ≤ (((rd_T69 l0 x11_1).f1) : Int) := od_; have q445 : ((rd_T69 l0 x11_1).f1) < (x5_1.length : Int) := od_; obtain ⟨ad445, e445, hx445_0⟩ := Kd.at_bool (Kd.R_reads' HO_5.out).2.2 ((rd_T69 l0 x11_1).f1) p445 q445; (try rw [← Nbq24.out] at hx445_0); cases e445; have hn445_0 : ad445.block ≠ gb436 := Kd.own_blk (Kd.R_ne HO_5.out BK436.out (by decide)); have hn445_1 : ad445.block ≠ gb436 := Kd.own_blk (Kd.R_ne HO_5.out BK436.out (by decide)); have hn445_2 : ad445.block ≠ gb436 := Kd.own_blk (Kd.R_ne HO_5.out BK436.out (by decide)); replace hx445_0 := (cell_far (p := ⟨gb436, 0, none⟩) (by first | (rw [add_block]; exact hn445_0) | (show (Addr.add _ _).block ≠ _; rw [add_block]; exact hn445_0) | exact hn445_0) (.int .i64 ((rd_T69 l0 x11_1).f0))).trans hx445_0; replace hx445_0 := (cell_far (p := ⟨gb436, 1, none⟩) (by first | (rw [add_block]; exact hn445_1) | (show (Addr.add _ _).block ≠ _; rw [add_block]; exact hn445_1) | exact hn445_1) (.int .i64 ((rd_T69 l0 x11_1).f1))).trans hx445_0; replace hx445_0 := (cell_far (p := ⟨gb436, 2, none⟩) (by first | (rw [add_block]; exact hn445_2) | (show (Addr.add _ _).block ≠ _; rw [add_block]; exact hn445_2) | exact hn445_2) (.int .i64 ((rd_T69 l0 x11_1).f2))).trans hx445_0; clear hn445_0; clear hn445_1; clear hn445_2; replace p445 := eq_true p445; replace q445 := eq_true q445; have p446 : 0 ≤ (((rd_T69 l0 x11_1).f2) : Int) := od_; have q446 : ((rd_T69 l0 x11_1).f2) < (x5_1.length : Int) := od_; obtain ⟨ad446, e446, hx446_0⟩ := Kd.at_bool (Kd.R_reads' HO_5.out).2.2 ((rd_T69 l0 x11_1).f2) p446 q446; (try rw [← Nbq24.out] at hx446_0); obtain rfl : ad445 = ad446 := (by injection e446); have hn446_0 : ad445.block ≠ gb436 := Kd.own_blk (Kd.R_ne HO_5.out BK436.out (by decide)); have hn446_1 : ad445.block ≠ gb436 := Kd.own_blk (Kd.R_ne HO_5.out BK436.out (by decide)); have hn446_2 : ad445.block ≠ gb436 := Kd.own_blk (Kd.R_ne HO_5.out BK436.out (by decide)); replace hx446_0 := (cell_far (p := ⟨gb436, 0, none⟩) (by first | (rw [add_block]; exact hn446_0) | (show (Addr.add _ _).block ≠ _; rw [add_block]; exact hn446_0) | exact hn446_0) (.int .i64 ((rd_T69 l0 x11_1).f0))).trans hx446_0; replace hx446_0 := (cell_far (p := ⟨gb436, 1, none⟩) (by first | (rw [add_block]; exact hn446_1) | (show (Addr.add _ _).block ≠ _; rw [add_block]; exact hn446_1) | exact hn446_1) (.int .i64 ((rd_T69 l0 x11_1).f1))).trans hx446_0; replace hx446_0 := (cell_far (p := ⟨gb436, 2, none⟩) (by first | (rw [add_block]; exact hn446_2) | (show (Addr.add _ _).block ≠ _; rw [add_block]; exact hn446_2) | exact hn446_2) (.int .i64 ((rd_T69 l0 x11_1).f2))).trans hx446_0; clear hn446_0; clear hn446_1; clear hn446_2; replace p446 := eq_true p446; replace q446 := eq_true q446) | ((with_reducible refine gate_builtin (b := .append) (xs := #[.tmp 55, .tmp 68]) rfl ?_); at_builtin; refine Kd.R_append Kd.bool (w0 := w) w.heap.size rfl (.tmp 55) (.tmp 68) 37 4 (.bool false) 1 rfl Try.underlying37 info4 rfl (by decide) (by omega) (.slice (some ad445) x5_1.length co31) x5_1 (rdOf false x5_1 ((rd_T69 l0 x11_1).f2)) [.bool (rdOf false x5_1 ((rd_T69 l0 x11_1).f2))] (fun _ => True) (fun _ => False) rfl y54_ ?aP (fun _ hk => hk.elim) ?aF ?aO ?aB ?aS ?aL ?_; (case aP => exact rfl); (case aB => exact (bq_)); (case aF => exact (fun _ _ => trivial)); (case aO => exact (rq_ (Kd.R_mono (Kd.R_far (p := ⟨gb436, 2, none⟩) (Kd.R_far (p := ⟨gb436, 1, none⟩) (Kd.R_far (p := ⟨gb436, 0, none⟩) (Kd.R_types HO_5.out BK436.out (by decide)) (fun _ hk => hk.2) (.int .i64 ((rd_T69 l0 x11_1).f0))) (fun _ hk => hk.2) (.int .i64 ((rd_T69 l0 x11_1).f1))) (fun _ hk => hk.2) (.int .i64 ((rd_T69 l0 x11_1).f2))) (fun _ hk => trivial)))); (case aS => exact (below_size (bq_))); (case aL => have := LMc28.out; omega); intro v448 w32 ho hb hg hat; rw [← Ny447.out] at ho; replace BK436 := am_ (blk_grown (g := gb436) (o := .cells #[.int .i64 ((rd_T69 l0 x11_1).f0), .int .i64 ((rd_T69 l0 x11_1).f1), .int .i64 ((rd_T69 l0 x11_1).f2)] 69 (0, 0)) (bu_ BK436.out) hg (Kd.R_ne HO_5.out BK436.out (by decide))); replace HB := am_ (hb); have HO449 := am_ (ho); clear HO_5; clear ho hb hg hat))
               go_roundg k1
               case measure => have := HK1.out; omega
               case rel => exact ⟨(y447), (x6_1), (wrap64 (x11_1 + 1)), y53_, y53_, H', ⟨by have := HK1.out; omega⟩, ⟨rq_ HO449.out⟩, ⟨bq_⟩⟩
              ·rw [if_neg c28] at H
               exact absurd H (by simp)
             ·rw [if_neg c27] at H
              exact absurd H (by simp)
            ·rw [if_neg c26] at H
             exact absurd H (by simp)
           ·replace c25 := Bool.eq_false_iff.mpr c25
            subst c25
            have H1 : (if x5_1.length < 140737488355328 then (spec_l8Eval.l0 k1 l1 (x5_1 ++ [false]) x6_1 l0 (l0.length : Int) (wrap64 (x11_1 + 1))) else (none)) = some r := by rw [if_neg (show ¬ (false = true) by decide)] at H; exact H
            clear H
            have H := H1
            clear H1
            by_cases c33 : x5_1.length < 140737488355328
            ·rw [if_pos c33] at H
             have LMc33 := am_ c33
             clear c33
             obtain ⟨y450, hy450⟩ : ∃ y_ : List Bool, y_ = (x5_1 ++ [false]) := ⟨_, rfl⟩
             replace H : (spec_l8Eval.l0 k1 l1 y450 x6_1 l0 (l0.length : Int) (wrap64 (x11_1 + 1))) = some r := by first | (rw [hy450]; with_reducible exact H) | (have H2_ := (Option.bind_some _ _).symm.trans H; rw [hy450]; with_reducible exact H2_) | (have H2_ := (Option.bind_some _ _).symm.trans H; with_reducible exact H2_) | with_reducible exact H | (rw [hy450]; exact H) | exact H
             have Ny450 := am_ hy450
             clear hy450
             have H' := am_ H
             clear H
             have p435 : 0 ≤ (x11_1 : Int) := od_
             have q435 : x11_1 < (l0.length : Int) := od_
             obtain ⟨ad435, e435, hx435_0, hx435_1, hx435_2⟩ := at_T69 HR0.out x11_1 p435 q435
             cases e435
             replace hx435_0 := (HB.out.cell (World.block_lt_of_cell? w _ hx435_0)).trans hx435_0
             replace hx435_1 := (HB.out.cell (World.block_lt_of_cell? w _ hx435_1)).trans hx435_1
             replace hx435_2 := (HB.out.cell (World.block_lt_of_cell? w _ hx435_2)).trans hx435_2
             replace p435 := eq_true p435
             replace q435 := eq_true q435
             go_wp2_with (first | ((with_reducible refine gate_dst (N := 8) rfl ?_); refine boxq_ (N := 8) (cs := #[.int .i64 0, .int .i64 0, .int .i64 0]) (t := 69) ?_; intro gb436 hg w34 hbox hb; replace HO_5 := am_ (Kd.R_below (rq_ HO_5.out) hb); have BK436 := am_ (hbox); have GW436 := gz_ hg; have GE436 := gz_ hg; replace HB := bs_ hb; clear hb hbox hg; have hcz35_0 := cq_ BK436.out 0 (.int .i64 0); have hcz35_1 := cq_ BK436.out 1 (.int .i64 0); have hcz35_2 := cq_ BK436.out 2 (.int .i64 0); have hfz35_0 := blk_frozen BK436.out 0; have hfz35_1 := blk_frozen BK436.out 1; have hfz35_2 := blk_frozen BK436.out 2; obtain ⟨Ao36, co36, eo36⟩ := Kd.R_slice HO_5.out; subst eo36; have p445 : 0 ≤ (((rd_T69 l0 x11_1).f1) : Int) := od_; have q445 : ((rd_T69 l0 x11_1).f1) < (x5_1.length : Int) := od_; obtain ⟨ad445, e445, hx445_0⟩ := Kd.at_bool (Kd.R_reads' HO_5.out).2.2 ((rd_T69 l0 x11_1).f1) p445 q445; (try rw [← Nbq24.out] at hx445_0); cases e445; have hn445_0 : ad445.block ≠ gb436 := Kd.own_blk (Kd.R_ne HO_5.out BK436.out (by decide)); have hn445_1 : ad445.block ≠ gb436 := Kd.own_blk (Kd.R_ne HO_5.out BK436.out (by decide)); have hn445_2 : ad445.block ≠ gb436 := Kd.own_blk (Kd.R_ne HO_5.out BK436.out (by decide)); replace hx445_0 := (cell_far (p := ⟨gb436, 0, none⟩) (by first | (rw [add_block]; exact hn445_0) | (show (Addr.add _ _).block ≠ _; rw [add_block]; exact hn445_0) | exact hn445_0) (.int .i64 ((rd_T69 l0 x11_1).f0))).trans hx445_0; replace hx445_0 := (cell_far (p := ⟨gb436, 1, none⟩) (by first | (rw [add_block]; exact hn445_1) | (show (Addr.add _ _).block ≠ _; rw [add_block]; exact hn445_1) | exact hn445_1) (.int .i64 ((rd_T69 l0 x11_1).f1))).trans hx445_0; replace hx445_0 := (cell_far (p := ⟨gb436, 2, none⟩) (by first | (rw [add_block]; exact hn445_2) | (show (Addr.add _ _).block ≠ _; rw [add_block]; exact hn445_2) | exact hn445_2) (.int .i64 ((rd_T69 l0 x11_1).f2))).trans hx445_0; clear hn445_0; clear hn445_1; clear hn445_2; replace p445 := eq_true p445; replace q445 := eq_true q445) | ((with_reducible refine gate_builtin (b := .append) (xs := #[.tmp 55, .tmp 68]) rfl ?_); at_builtin; refine Kd.R_append Kd.bool (w0 := w) w.heap.size rfl (.tmp 55) (.tmp 68) 37 4 (.bool false) 1 rfl Try.underlying37 info4 rfl (by decide) (by omega) (.slice (some ad445) x5_1.length co36) x5_1 false [.bool false] (fun _ => True) (fun _ => False) rfl y54_ ?aP (fun _ hk => hk.elim) ?aF ?aO ?aB ?aS ?aL ?_; (case aP => exact rfl); (case aB => exact (bq_)); (case aF => exact (fun _ _ => trivial)); (case aO => exact (rq_ (Kd.R_mono (Kd.R_far (p := ⟨gb436, 2, none⟩) (Kd.R_far (p := ⟨gb436, 1, none⟩) (Kd.R_far (p := ⟨gb436, 0, none⟩) (Kd.R_types HO_5.out BK436.out (by decide)) (fun _ hk => hk.2) (.int .i64 ((rd_T69 l0 x11_1).f0))) (fun _ hk => hk.2) (.int .i64 ((rd_T69 l0 x11_1).f1))) (fun _ hk => hk.2) (.int .i64 ((rd_T69 l0 x11_1).f2))) (fun _ hk => trivial)))); (case aS => exact (below_size (bq_))); (case aL => have := LMc33.out; omega); intro v451 w37 ho hb hg hat; rw [← Ny450.out] at ho; replace BK436 := am_ (blk_grown (g := gb436) (o := .cells #[.int .i64 ((rd_T69 l0 x11_1).f0), .int .i64 ((rd_T69 l0 x11_1).f1), .int .i64 ((rd_T69 l0 x11_1).f2)] 69 (0, 0)) (bu_ BK436.out) hg (Kd.R_ne HO_5.out BK436.out (by decide))); replace HB := am_ (hb); have HO452 := am_ (ho); clear HO_5; clear ho hb hg hat))
             go_roundg k1
             case measure => have := HK1.out; omega
             case rel => exact ⟨(y450), (x6_1), (wrap64 (x11_1 + 1)), y53_, y53_, H', ⟨by have := HK1.out; omega⟩, ⟨rq_ HO452.out⟩, ⟨bq_⟩⟩
            ·rw [if_neg c33] at H
             exact absurd H (by simp)
          ·rw [if_neg c23] at H
           exact absurd H (by simp)
         ·rw [if_neg c22] at H
          exact absurd H (by simp)
        ·rw [if_neg c21] at H
         have c21b0 : (((rd_T69 l0 x11_1).f0) == 3) = false := beq_eq_false_iff_ne.mpr c21
         have c21b1 : (((rd_T69 l0 x11_1).f0) != 3) = true := bne_iff_ne.mpr c21
         by_cases c38 : ((rd_T69 l0 x11_1).f0) = 4
         ·rw [if_pos c38] at H
          have c38b0 : (((rd_T69 l0 x11_1).f0) == 4) = true := beq_iff_eq.mpr c38
          have c38b1 : (((rd_T69 l0 x11_1).f0) != 4) = false := bne_eq_false_iff_eq.mpr c38
          clear c38
          by_cases c39 : 0 ≤ ((rd_T69 l0 x11_1).f1)
          ·rw [if_pos c39] at H
           have c39b0 : decide (0 ≤ ((rd_T69 l0 x11_1).f1)) = true := decide_eq_true c39
           clear c39
           by_cases c40 : ((rd_T69 l0 x11_1).f1) < (x5_1.length : Int)
           ·rw [if_pos c40] at H
            have c40b0 : decide (((rd_T69 l0 x11_1).f1) < (x5_1.length : Int)) = true := decide_eq_true c40
            clear c40
            obtain ⟨bq41, hbq41⟩ : ∃ b_ : Bool, b_ = (rdOf false x5_1 ((rd_T69 l0 x11_1).f1)) := ⟨_, rfl⟩
            replace H : (if bq41 = true then (if x5_1.length < 140737488355328 then (spec_l8Eval.l0 k1 l1 (x5_1 ++ [true]) x6_1 l0 (l0.length : Int) (wrap64 (x11_1 + 1))) else (none)) else (if 0 ≤ ((rd_T69 l0 x11_1).f2) then (if ((rd_T69 l0 x11_1).f2) < (x5_1.length : Int) then (if x5_1.length < 140737488355328 then (spec_l8Eval.l0 k1 l1 (x5_1 ++ [rdOf false x5_1 ((rd_T69 l0 x11_1).f2)]) x6_1 l0 (l0.length : Int) (wrap64 (x11_1 + 1))) else (none)) else (none)) else (none))) = some r := by rw [← hbq41] at H; exact H
            have Nbq41 := am_ hbq41
            clear hbq41
            by_cases c42 : bq41 = true
            ·subst c42
             have H1 : (if x5_1.length < 140737488355328 then (spec_l8Eval.l0 k1 l1 (x5_1 ++ [true]) x6_1 l0 (l0.length : Int) (wrap64 (x11_1 + 1))) else (none)) = some r := by rw [if_pos rfl] at H; exact H
             clear H
             have H := H1
             clear H1
             by_cases c43 : x5_1.length < 140737488355328
             ·rw [if_pos c43] at H
              have LMc43 := am_ c43
              clear c43
              obtain ⟨y454, hy454⟩ : ∃ y_ : List Bool, y_ = (x5_1 ++ [true]) := ⟨_, rfl⟩
              replace H : (spec_l8Eval.l0 k1 l1 y454 x6_1 l0 (l0.length : Int) (wrap64 (x11_1 + 1))) = some r := by first | (rw [hy454]; with_reducible exact H) | (have H2_ := (Option.bind_some _ _).symm.trans H; rw [hy454]; with_reducible exact H2_) | (have H2_ := (Option.bind_some _ _).symm.trans H; with_reducible exact H2_) | with_reducible exact H | (rw [hy454]; exact H) | exact H
              have Ny454 := am_ hy454
              clear hy454
              have H' := am_ H
              clear H
              have p435 : 0 ≤ (x11_1 : Int) := od_
              have q435 : x11_1 < (l0.length : Int) := od_
              obtain ⟨ad435, e435, hx435_0, hx435_1, hx435_2⟩ := at_T69 HR0.out x11_1 p435 q435
              cases e435
              replace hx435_0 := (HB.out.cell (World.block_lt_of_cell? w _ hx435_0)).trans hx435_0
              replace hx435_1 := (HB.out.cell (World.block_lt_of_cell? w _ hx435_1)).trans hx435_1
              replace hx435_2 := (HB.out.cell (World.block_lt_of_cell? w _ hx435_2)).trans hx435_2
              replace p435 := eq_true p435
              replace q435 := eq_true q435
              go_wp2_with (first | ((with_reducible refine gate_dst (N := 8) rfl ?_); refine boxq_ (N := 8) (cs := #[.int .i64 0, .int .i64 0, .int .i64 0]) (t := 69) ?_; intro gb436 hg w44 hbox hb; replace HO_5 := am_ (Kd.R_below (rq_ HO_5.out) hb); have BK436 := am_ (hbox); have GW436 := gz_ hg; have GE436 := gz_ hg; replace HB := bs_ hb; clear hb hbox hg; have hcz45_0 := cq_ BK436.out 0 (.int .i64 0); have hcz45_1 := cq_ BK436.out 1 (.int .i64 0); have hcz45_2 := cq_ BK436.out 2 (.int .i64 0); have hfz45_0 := blk_frozen BK436.out 0; have hfz45_1 := blk_frozen BK436.out 1; have hfz45_2 := blk_frozen BK436.out 2; obtain ⟨Ao46, co46, eo46⟩ := Kd.R_slice HO_5.out; subst eo46; have p453 : 0 ≤ (((rd_T69 l0 x11_1).f1) : Int) := od_; have q453 : ((rd_T69 l0 x11_1).f1) < (x5_1.length : Int) := od_; obtain ⟨ad453, e453, hx453_0⟩ := Kd.at_bool (Kd.R_reads' HO_5.out).2.2 ((rd_T69 l0 x11_1).f1) p453 q453; (try rw [← Nbq41.out] at hx453_0); cases e453; have hn453_0 : ad453.block ≠ gb436 := Kd.own_blk (Kd.R_ne HO_5.out BK436.out (by decide)); have hn453_1 : ad453.block ≠ gb436 := Kd.own_blk (Kd.R_ne HO_5.out BK436.out (by decide)); have hn453_2 : ad453.block ≠ gb436 := Kd.own_blk (Kd.R_ne HO_5.out BK436.out (by decide)); replace hx453_0 := (cell_far (p := ⟨gb436, 0, none⟩) (by first | (rw [add_block]; exact hn453_0) | (show (Addr.add _ _).block ≠ _; rw [add_block]; exact hn453_0) | exact hn453_0) (.int .i64 ((rd_T69 l0 x11_1).f0))).trans hx453_0; replace hx453_0 := (cell_far (p := ⟨gb436, 1, none⟩) (by first | (rw [add_block]; exact hn453_1) | (show (Addr.add _ _).block ≠ _; rw [add_block]; exact hn453_1) | exact hn453_1) (.int .i64 ((rd_T69 l0 x11_1).f1))).trans hx453_0; replace hx453_0 := (cell_far (p := ⟨gb436, 2, none⟩) (by first | (rw [add_block]; exact hn453_2) | (show (Addr.add _ _).block ≠ _; rw [add_block]; exact hn453_2) | exact hn453_2) (.int .i64 ((rd_T69 l0 x11_1).f2))).trans hx453_0; clear hn453_0; clear hn453_1; clear hn453_2; replace p453 := eq_true p453; replace q453 := eq_true q453) | ((with_reducible refine gate_builtin (b := .append) (xs := #[.tmp 72, .tmp 85]) rfl ?_); at_builtin; refine Kd.R_append Kd.bool (w0 := w) w.heap.size rfl (.tmp 72) (.tmp 85) 37 4 (.bool false) 1 rfl Try.underlying37 info4 rfl (by decide) (by omega) (.slice (some ad453) x5_1.length co46) x5_1 true [.bool true] (fun _ => True) (fun _ => False) rfl y54_ ?aP (fun _ hk => hk.elim) ?aF ?aO ?aB ?aS ?aL ?_; (case aP => exact rfl); (case aB => exact (bq_)); (case aF => exact (fun _ _ => trivial)); (case aO => exact (rq_ (Kd.R_mono (Kd.R_far (p := ⟨gb436, 2, none⟩) (Kd.R_far (p := ⟨gb436, 1, none⟩) (Kd.R_far (p := ⟨gb436, 0, none⟩) (Kd.R_types HO_5.out BK436.out (by decide)) (fun _ hk => hk.2) (.int .i64 ((rd_T69 l0 x11_1).f0))) (fun _ hk => hk.2) (.int .i64 ((rd_T69 l0 x11_1).f1))) (fun _ hk => hk.2) (.int .i64 ((rd_T69 l0 x11_1).f2))) (fun _ hk => trivial)))); (case aS => exact (below_size (bq_))); (case aL => have := LMc43.out; omega); intro v455 w47 ho hb hg hat; rw [← Ny454.out] at ho; replace BK436 := am_ (blk_grown (g := gb436) (o := .cells #[.int .i64 ((rd_T69 l0 x11_1).f0), .int .i64 ((rd_T69 l0 x11_1).f1), .int .i64 ((rd_T69 l0 x11_1).f2)] 69 (0, 0)) (bu_ BK436.out) hg (Kd.R_ne HO_5.out BK436.out (by decide))); replace HB := am_ (hb); have HO456 := am_ (ho); clear HO_5; clear ho hb hg hat))
              go_roundg k1
              case measure => have := HK1.out; omega
              case rel => exact ⟨(y454), (x6_1), (wrap64 (x11_1 + 1)), y53_, y53_, H', ⟨by have := HK1.out; omega⟩, ⟨rq_ HO456.out⟩, ⟨bq_⟩⟩
             ·rw [if_neg c43] at H
              exact absurd H (by simp)
            ·replace c42 := Bool.eq_false_iff.mpr c42
             subst c42
             have H1 : (if 0 ≤ ((rd_T69 l0 x11_1).f2) then (if ((rd_T69 l0 x11_1).f2) < (x5_1.length : Int) then (if x5_1.length < 140737488355328 then (spec_l8Eval.l0 k1 l1 (x5_1 ++ [rdOf false x5_1 ((rd_T69 l0 x11_1).f2)]) x6_1 l0 (l0.length : Int) (wrap64 (x11_1 + 1))) else (none)) else (none)) else (none)) = some r := by rw [if_neg (show ¬ (false = true) by decide)] at H; exact H
             clear H
             have H := H1
             clear H1
             by_cases c48 : 0 ≤ ((rd_T69 l0 x11_1).f2)
             ·rw [if_pos c48] at H
              have c48b0 : decide (0 ≤ ((rd_T69 l0 x11_1).f2)) = true := decide_eq_true c48
              clear c48
              by_cases c49 : ((rd_T69 l0 x11_1).f2) < (x5_1.length : Int)
              ·rw [if_pos c49] at H
               have c49b0 : decide (((rd_T69 l0 x11_1).f2) < (x5_1.length : Int)) = true := decide_eq_true c49
               clear c49
               by_cases c50 : x5_1.length < 140737488355328
               ·rw [if_pos c50] at H
                have LMc50 := am_ c50
                clear c50
                obtain ⟨y458, hy458⟩ : ∃ y_ : List Bool, y_ = (x5_1 ++ [rdOf false x5_1 ((rd_T69 l0 x11_1).f2)]) := ⟨_, rfl⟩
                replace H : (spec_l8Eval.l0 k1 l1 y458 x6_1 l0 (l0.length : Int) (wrap64 (x11_1 + 1))) = some r := by first | (rw [hy458]; with_reducible exact H) | (have H2_ := (Option.bind_some _ _).symm.trans H; rw [hy458]; with_reducible exact H2_) | (have H2_ := (Option.bind_some _ _).symm.trans H; with_reducible exact H2_) | with_reducible exact H | (rw [hy458]; exact H) | exact H
                have Ny458 := am_ hy458
                clear hy458
                have H' := am_ H
                clear H
                have p435 : 0 ≤ (x11_1 : Int) := od_
                have q435 : x11_1 < (l0.length : Int) := od_
                obtain ⟨ad435, e435, hx435_0, hx435_1, hx435_2⟩ := at_T69 HR0.out x11_1 p435 q435
                cases e435
                replace hx435_0 := (HB.out.cell (World.block_lt_of_cell? w _ hx435_0)).trans hx435_0
                replace hx435_1 := (HB.out.cell (World.block_lt_of_cell? w _ hx435_1)).trans hx435_1
                replace hx435_2 := (HB.out.cell (World.block_lt_of_cell? w _ hx435_2)).trans hx435_2
                replace p435 := eq_true p435
                replace q435 := eq_true q435
                go_wp2_with (first | ((with_reducible refine gate_dst (N := 8) rfl ?_); refine boxq_ (N := 8) (cs := #[.int .i64 0, .int .i64 0, .int .i64 0]) (t := 69) ?_; intro gb436 hg w51 hbox hb; replace HO_5 := am_ (Kd.R_below (rq_ HO_5.out) hb); have BK436 := am_ (hbox); have GW436 := gz_ hg; have GE436 := gz_ hg; replace HB := bs_ hb; clear hb hbox hg; have hcz52_0 := cq_ BK436.out 0 (.int .i64 0); have hcz52_1 := cq_ BK436.out 1 (.int .i64 0); have hcz52_2 := cq_ BK436.out 2 (.int .i64 0); have hfz52_0 := blk_frozen BK436.out 0; have hfz52_1 := blk_frozen BK436.out 1; have hfz52_2 := blk_frozen BK436.out 2; obtain ⟨Ao53, co53, eo53⟩ := Kd.R_slice HO_5.out; subst eo53; have p453 : 0 ≤ (((rd_T69 l0 x11_1).f1) : Int) := od_; have q453 : ((rd_T69 l0 x11_1).f1) < (x5_1.length : Int) := od_; obtain ⟨ad453, e453, hx453_0⟩ := Kd.at_bool (Kd.R_reads' HO_5.out).2.2 ((rd_T69 l0 x11_1).f1) p453 q453; (try rw [← Nbq41.out] at hx453_0); cases e453; have hn453_0 : ad453.block ≠ gb436 := Kd.own_blk (Kd.R_ne HO_5.out BK436.out (by decide)); have hn453_1 : ad453.block ≠ gb436 := Kd.own_blk (Kd.R_ne HO_5.out BK436.out (by decide)); have hn453_2 : ad453.block ≠ gb436 := Kd.own_blk (Kd.R_ne HO_5.out BK436.out (by decide)); replace hx453_0 := (cell_far (p := ⟨gb436, 0, none⟩) (by first | (rw [add_block]; exact hn453_0) | (show (Addr.add _ _).block ≠ _; rw [add_block]; exact hn453_0) | exact hn453_0) (.int .i64 ((rd_T69 l0 x11_1).f0))).trans hx453_0; replace hx453_0 := (cell_far (p := ⟨gb436, 1, none⟩) (by first | (rw [add_block]; exact hn453_1) | (show (Addr.add _ _).block ≠ _; rw [add_block]; exact hn453_1) | exact hn453_1) (.int .i64 ((rd_T69 l0 x11_1).f1))).trans hx453_0; replace hx453_0 := (cell_far (p := ⟨gb436, 2, none⟩) (by first | (rw [add_block]; exact hn453_2) | (show (Addr.add _ _).block ≠ _; rw [add_block]; exact hn453_2) | exact hn453_2) (.int .i64 ((rd_T69 l0 x11_1).f2))).trans hx453_0; clear hn453_0; clear hn453_1; clear hn453_2; replace p453 := eq_true p453; replace q453 := eq_true q453; have p457 : 0 ≤ (((rd_T69 l0 x11_1).f2) : Int) := od_; have q457 : ((rd_T69 l0 x11_1).f2) < (x5_1.length : Int) := od_; obtain ⟨ad457, e457, hx457_0⟩ := Kd.at_bool (Kd.R_reads' HO_5.out).2.2 ((rd_T69 l0 x11_1).f2) p457 q457; (try rw [← Nbq41.out] at hx457_0); obtain rfl : ad453 = ad457 := (by injection e457); have hn457_0 : ad453.block ≠ gb436 := Kd.own_blk (Kd.R_ne HO_5.out BK436.out (by decide)); have hn457_1 : ad453.block ≠ gb436 := Kd.own_blk (Kd.R_ne HO_5.out BK436.out (by decide)); have hn457_2 : ad453.block ≠ gb436 := Kd.own_blk (Kd.R_ne HO_5.out BK436.out (by decide)); replace hx457_0 := (cell_far (p := ⟨gb436, 0, none⟩) (by first | (rw [add_block]; exact hn457_0) | (show (Addr.add _ _).block ≠ _; rw [add_block]; exact hn457_0) | exact hn457_0) (.int .i64 ((rd_T69 l0 x11_1).f0))).trans hx457_0; replace hx457_0 := (cell_far (p := ⟨gb436, 1, none⟩) (by first | (rw [add_block]; exact hn457_1) | (show (Addr.add _ _).block ≠ _; rw [add_block]; exact hn457_1) | exact hn457_1) (.int .i64 ((rd_T69 l0 x11_1).f1))).trans hx457_0; replace hx457_0 := (cell_far (p := ⟨gb436, 2, none⟩) (by first | (rw [add_block]; exact hn457_2) | (show (Addr.add _ _).block ≠ _; rw [add_block]; exact hn457_2) | exact hn457_2) (.int .i64 ((rd_T69 l0 x11_1).f2))).trans hx457_0; clear hn457_0; clear hn457_1; clear hn457_2; replace p457 := eq_true p457; replace q457 := eq_true q457) | ((with_reducible refine gate_builtin (b := .append) (xs := #[.tmp 72, .tmp 85]) rfl ?_); at_builtin; refine Kd.R_append Kd.bool (w0 := w) w.heap.size rfl (.tmp 72) (.tmp 85) 37 4 (.bool false) 1 rfl Try.underlying37 info4 rfl (by decide) (by omega) (.slice (some ad453) x5_1.length co53) x5_1 (rdOf false x5_1 ((rd_T69 l0 x11_1).f2)) [.bool (rdOf false x5_1 ((rd_T69 l0 x11_1).f2))] (fun _ => True) (fun _ => False) rfl y54_ ?aP (fun _ hk => hk.elim) ?aF ?aO ?aB ?aS ?aL ?_; (case aP => exact rfl); (case aB => exact (bq_)); (case aF => exact (fun _ _ => trivial)); (case aO => exact (rq_ (Kd.R_mono (Kd.R_far (p := ⟨gb436, 2, none⟩) (Kd.R_far (p := ⟨gb436, 1, none⟩) (Kd.R_far (p := ⟨gb436, 0, none⟩) (Kd.R_types HO_5.out BK436.out (by decide)) (fun _ hk => hk.2) (.int .i64 ((rd_T69 l0 x11_1).f0))) (fun _ hk => hk.2) (.int .i64 ((rd_T69 l0 x11_1).f1))) (fun _ hk => hk.2) (.int .i64 ((rd_T69 l0 x11_1).f2))) (fun _ hk => trivial)))); (case aS => exact (below_size (bq_))); (case aL => have := LMc50.out; omega); intro v459 w54 ho hb hg hat; rw [← Ny458.out] at ho; replace BK436 := am_ (blk_grown (g := gb436) (o := .cells #[.int .i64 ((rd_T69 l0 x11_1).f0), .int .i64 ((rd_T69 l0 x11_1).f1), .int .i64 ((rd_T69 l0 x11_1).f2)] 69 (0, 0)) (bu_ BK436.out) hg (Kd.R_ne HO_5.out BK436.out (by decide))); replace HB := am_ (hb); have HO460 := am_ (ho); clear HO_5; clear ho hb hg hat))
                go_roundg k1
                case measure => have := HK1.out; omega
                case rel => exact ⟨(y458), (x6_1), (wrap64 (x11_1 + 1)), y53_, y53_, H', ⟨by have := HK1.out; omega⟩, ⟨rq_ HO460.out⟩, ⟨bq_⟩⟩
               ·rw [if_neg c50] at H
                exact absurd H (by simp)
              ·rw [if_neg c49] at H
               exact absurd H (by simp)
             ·rw [if_neg c48] at H
              exact absurd H (by simp)
           ·rw [if_neg c40] at H
            exact absurd H (by simp)
          ·rw [if_neg c39] at H
           exact absurd H (by simp)
         ·rw [if_neg c38] at H
          have c38b0 : (((rd_T69 l0 x11_1).f0) == 4) = false := beq_eq_false_iff_ne.mpr c38
          have c38b1 : (((rd_T69 l0 x11_1).f0) != 4) = true := bne_iff_ne.mpr c38
          by_cases c55 : 0 ≤ ((rd_T69 l0 x11_1).f1)
          ·rw [if_pos c55] at H
           have c55b0 : decide (0 ≤ ((rd_T69 l0 x11_1).f1)) = true := decide_eq_true c55
           clear c55
           by_cases c56 : ((rd_T69 l0 x11_1).f1) < (x5_1.length : Int)
           ·rw [if_pos c56] at H
            have c56b0 : decide (((rd_T69 l0 x11_1).f1) < (x5_1.length : Int)) = true := decide_eq_true c56
            clear c56
            by_cases c57 : 0 ≤ ((rd_T69 l0 x11_1).f2)
            ·rw [if_pos c57] at H
             have c57b0 : decide (0 ≤ ((rd_T69 l0 x11_1).f2)) = true := decide_eq_true c57
             clear c57
             by_cases c58 : ((rd_T69 l0 x11_1).f2) < (x5_1.length : Int)
             ·rw [if_pos c58] at H
              have c58b0 : decide (((rd_T69 l0 x11_1).f2) < (x5_1.length : Int)) = true := decide_eq_true c58
              clear c58
              by_cases c59 : x5_1.length < 140737488355328
              ·rw [if_pos c59] at H
               have LMc59 := am_ c59
               clear c59
               obtain ⟨y463, hy463⟩ : ∃ y_ : List Bool, y_ = (x5_1 ++ [((rdOf false x5_1 ((rd_T69 l0 x11_1).f1)) != (rdOf false x5_1 ((rd_T69 l0 x11_1).f2)))]) := ⟨_, rfl⟩
               replace H : (spec_l8Eval.l0 k1 l1 y463 x6_1 l0 (l0.length : Int) (wrap64 (x11_1 + 1))) = some r := by first | (rw [hy463]; with_reducible exact H) | (have H2_ := (Option.bind_some _ _).symm.trans H; rw [hy463]; with_reducible exact H2_) | (have H2_ := (Option.bind_some _ _).symm.trans H; with_reducible exact H2_) | with_reducible exact H | (rw [hy463]; exact H) | exact H
               have Ny463 := am_ hy463
               clear hy463
               have H' := am_ H
               clear H
               have p435 : 0 ≤ (x11_1 : Int) := od_
               have q435 : x11_1 < (l0.length : Int) := od_
               obtain ⟨ad435, e435, hx435_0, hx435_1, hx435_2⟩ := at_T69 HR0.out x11_1 p435 q435
               cases e435
               replace hx435_0 := (HB.out.cell (World.block_lt_of_cell? w _ hx435_0)).trans hx435_0
               replace hx435_1 := (HB.out.cell (World.block_lt_of_cell? w _ hx435_1)).trans hx435_1
               replace hx435_2 := (HB.out.cell (World.block_lt_of_cell? w _ hx435_2)).trans hx435_2
               replace p435 := eq_true p435
               replace q435 := eq_true q435
               try go_wp2_with (first | ((with_reducible refine gate_dst (N := 8) rfl ?_); refine boxq_ (N := 8) (cs := #[.int .i64 0, .int .i64 0, .int .i64 0]) (t := 69) ?_; intro gb436 hg w60 hbox hb; replace HO_5 := am_ (Kd.R_below (rq_ HO_5.out) hb); have BK436 := am_ (hbox); have GW436 := gz_ hg; have GE436 := gz_ hg; replace HB := bs_ hb; clear hb hbox hg; have hcz61_0 := cq_ BK436.out 0 (.int .i64 0); have hcz61_1 := cq_ BK436.out 1 (.int .i64 0); have hcz61_2 := cq_ BK436.out 2 (.int .i64 0); have hfz61_0 := blk_frozen BK436.out 0; have hfz61_1 := blk_frozen BK436.out 1; have hfz61_2 := blk_frozen BK436.out 2))
               have n0_ : Aside0 (Kd.R Kd.bool 4 (((w60.setCell ⟨gb436, 0, none⟩ (.int .i64 ((rd_T69 l0 x11_1).f0))).setCell ⟨gb436, 1, none⟩ (.int .i64 ((rd_T69 l0 x11_1).f1))).setCell ⟨gb436, 2, none⟩ (.int .i64 ((rd_T69 l0 x11_1).f2))) w.heap.size (fun _ => True) u5 x5_1) := ⟨rq_ (Kd.R_mono (Kd.R_far (p := ⟨gb436, 2, none⟩) (Kd.R_far (p := ⟨gb436, 1, none⟩) (Kd.R_far (p := ⟨gb436, 0, none⟩) (Kd.R_types HO_5.out BK436.out (by decide)) (fun _ hk => hk.2) (.int .i64 ((rd_T69 l0 x11_1).f0))) (fun _ hk => hk.2) (.int .i64 ((rd_T69 l0 x11_1).f1))) (fun _ hk => hk.2) (.int .i64 ((rd_T69 l0 x11_1).f2))) (fun _ hk => trivial))⟩
               have n1_ : Aside0 ((((w60.setCell ⟨gb436, 0, none⟩ (.int .i64 ((rd_T69 l0 x11_1).f0))).setCell ⟨gb436, 1, none⟩ (.int .i64 ((rd_T69 l0 x11_1).f1))).setCell ⟨gb436, 2, none⟩ (.int .i64 ((rd_T69 l0 x11_1).f2))).heap[gb436]? = some (.cells #[.int .i64 ((rd_T69 l0 x11_1).f0), .int .i64 ((rd_T69 l0 x11_1).f1), .int .i64 ((rd_T69 l0 x11_1).f2)] 69 (0, 0))) := ⟨by (with_reducible repeat (first | refine blk_drewN ?_ _ | refine blk_drew ?_ | refine blk_alloc ?_ _)); refine blk_put (cs := #[.int .i64 ((rd_T69 l0 x11_1).f0), .int .i64 ((rd_T69 l0 x11_1).f1), .int .i64 0]) ?_ 2 _ rfl; (with_reducible repeat (first | refine blk_drewN ?_ _ | refine blk_drew ?_ | refine blk_alloc ?_ _)); refine blk_put (cs := #[.int .i64 ((rd_T69 l0 x11_1).f0), .int .i64 0, .int .i64 0]) ?_ 1 _ rfl; (with_reducible repeat (first | refine blk_drewN ?_ _ | refine blk_drew ?_ | refine blk_alloc ?_ _)); refine blk_put (cs := #[.int .i64 0, .int .i64 0, .int .i64 0]) ?_ 0 _ rfl; (with_reducible repeat (first | refine blk_drewN ?_ _ | refine blk_drew ?_ | refine blk_alloc ?_ _)); exact BK436.out⟩
               have n2_ : Aside0 (Below w.heap.size w (((w60.setCell ⟨gb436, 0, none⟩ (.int .i64 ((rd_T69 l0 x11_1).f0))).setCell ⟨gb436, 1, none⟩ (.int .i64 ((rd_T69 l0 x11_1).f1))).setCell ⟨gb436, 2, none⟩ (.int .i64 ((rd_T69 l0 x11_1).f2)))) := ⟨bq_⟩
               (try clear HO_5)
               (try clear BK436)
               (try clear HB)
               generalize (((w60.setCell ⟨gb436, 0, none⟩ (.int .i64 ((rd_T69 l0 x11_1).f0))).setCell ⟨gb436, 1, none⟩ (.int .i64 ((rd_T69 l0 x11_1).f1))).setCell ⟨gb436, 2, none⟩ (.int .i64 ((rd_T69 l0 x11_1).f2))) = w62 at n0_ n1_ n2_ ⊢
               have HO_5 := n0_
               have BK436 := n1_
               have HB := n2_
               clear n0_ n1_ n2_
               replace HO_5 := am_ (Kd.R_drew HO_5.out)
               replace BK436 := am_ (blk_drew BK436.out)
               replace HB := am_ (below_drew1 HB.out)
               obtain ⟨Ao64, co64, eo64⟩ := Kd.R_slice HO_5.out
               (first | subst eo64 | (injection eo64 with f1_ f2_ f3_; have f4_ := f1_.symm; have f5_ := f3_.symm; clear f1_ f2_ f3_; subst f4_; subst f5_))
               have p461 : 0 ≤ (((rd_T69 l0 x11_1).f1) : Int) := od_
               have q461 : ((rd_T69 l0 x11_1).f1) < (x5_1.length : Int) := od_
               obtain ⟨ad461, e461, hx461_0⟩ := Kd.at_bool (Kd.R_reads' HO_5.out).2.2 ((rd_T69 l0 x11_1).f1) p461 q461
               cases e461
               replace p461 := eq_true p461
               replace q461 := eq_true q461
               have p462 : 0 ≤ (((rd_T69 l0 x11_1).f2) : Int) := od_
               have q462 : ((rd_T69 l0 x11_1).f2) < (x5_1.length : Int) := od_
               obtain ⟨ad462, e462, hx462_0⟩ := Kd.at_bool (Kd.R_reads' HO_5.out).2.2 ((rd_T69 l0 x11_1).f2) p462 q462
               obtain rfl : ad461 = ad462 := (by injection e462)
               replace p462 := eq_true p462
               replace q462 := eq_true q462
               refine start_ (n := 15) (S := fun w' => w'.cell? ⟨gb436, 0, none⟩ = some (.int .i64 ((rd_T69 l0 x11_1).f0)) ∧ w'.cell? ⟨gb436, 1, none⟩ = some (.int .i64 ((rd_T69 l0 x11_1).f1)) ∧ w'.cell? ⟨gb436, 2, none⟩ = some (.int .i64 ((rd_T69 l0 x11_1).f2)) ∧ w'.cell? (ad461.add (((rd_T69 l0 x11_1).f1)).toNat) = some (.bool (rdOf false x5_1 ((rd_T69 l0 x11_1).f1))) ∧ w'.cell? (ad461.add (((rd_T69 l0 x11_1).f2)).toNat) = some (.bool (rdOf false x5_1 ((rd_T69 l0 x11_1).f2)))) (ds := [12, 13]) #[false, false, false, false, false, false, false, false, false, false, false, false, false, false, false] (by kernel_rfl) rfl rfl ⟨(blk_cell BK436.out 0).trans rfl, (blk_cell BK436.out 1).trans rfl, (blk_cell BK436.out 2).trans rfl, hx461_0, hx462_0⟩ (fun hHeld => ?_); refine with_tabW spec_l8Eval.tab7 spec_l8Eval.bits7 (fun HT_ HW_ => ?_)
               generalize w62.drew = w63 at HO_5 BK436 HB hx461_0 hx462_0 hHeld ⊢
               refine pure_ (i := 0) (N := some 17) (v := ?_) (a' := ?_) #[true, false, false, false, false, false, false, false, false, false, false, false, false, false, false] rfl rfl (any_of HT_.out (by kernel_rfl)) (fun _ _ _ h => h) (Or.inl ⟨by rfl, ?_⟩) ?_ ?_
               rotate_left
               ·intro w'
                go_simp
                with_reducible rfl
               rotate_left
               ·simp only [Act.put, List.setIfInBounds_toArray, List.set_cons_zero, List.set_cons_succ, i64_w, i32_w]
                rfl
               refine pure_ (i := 1) (N := some 18) (v := ?_) (a' := ?_) #[true, true, false, false, false, false, false, false, false, false, false, false, false, false, false] rfl rfl (any_of HT_.out (by kernel_rfl)) (fun _ _ _ h => h) (Or.inl ⟨by rfl, ?_⟩) ?_ ?_
               rotate_left
               ·intro w'
                go_simp
                with_reducible rfl
               rotate_left
               ·simp only [Act.put, List.setIfInBounds_toArray, List.set_cons_zero, List.set_cons_succ, i64_w, i32_w]
                rfl
               refine pure_ (i := 2) (N := some 19) (v := ?_) (a' := ?_) #[true, true, true, false, false, false, false, false, false, false, false, false, false, false, false] rfl rfl (any_of HT_.out (by kernel_rfl)) (fun _ _ _ h => h) (Or.inl ⟨by rfl, ?_⟩) ?_ ?_
               rotate_left
               ·intro w'
                go_simp
                with_reducible rfl
               rotate_left
               ·simp only [Act.put, List.setIfInBounds_toArray, List.set_cons_zero, List.set_cons_succ, i64_w, i32_w]
                rfl
               refine pure_ (i := 6) (N := some 23) (v := ?_) (a' := ?_) #[true, true, true, false, false, false, true, false, false, false, false, false, false, false, false] rfl rfl (any_of HT_.out (by kernel_rfl)) (fun _ _ _ h => h) (Or.inl ⟨by rfl, ?_⟩) ?_ ?_
               rotate_left
               ·intro w'
                go_simp
                with_reducible rfl
               rotate_left
               ·simp only [Act.put, List.setIfInBounds_toArray, List.set_cons_zero, List.set_cons_succ, i64_w, i32_w]
                rfl
               refine pure_ (i := 7) (N := some 24) (v := ?_) (a' := ?_) #[true, true, true, false, false, false, true, true, false, false, false, false, false, false, false] rfl rfl (any_of HT_.out (by kernel_rfl)) (fun _ _ _ h => h) (Or.inl ⟨by rfl, ?_⟩) ?_ ?_
               rotate_left
               ·intro w'
                go_simp
                with_reducible rfl
               rotate_left
               ·simp only [Act.put, List.setIfInBounds_toArray, List.set_cons_zero, List.set_cons_succ, i64_w, i32_w]
                rfl
               refine take_ (i := 3) (N := some 20) (v := ?_) (a' := ?_) #[true, true, true, true, false, false, true, true, false, false, false, false, false, false, false] rfl rfl (take_ofW HT_.out HW_.out (by kernel_rfl)) (fun _ _ _ h => h) (Or.inl ⟨by rfl, ?_⟩) hHeld ?_ ?_
               rotate_left
               ·rintro w' ⟨s0, s1, s2, s3, s4⟩
                go_simp
                with_reducible rfl
               rotate_left
               ·simp only [Act.put, List.setIfInBounds_toArray, List.set_cons_zero, List.set_cons_succ, i64_w, i32_w]
                rfl
               refine pure_ (i := 4) (N := some 21) (v := ?_) (a' := ?_) #[true, true, true, true, true, false, true, true, false, false, false, false, false, false, false] rfl rfl (any_of HT_.out (by kernel_rfl)) (fun _ _ _ h => h) (Or.inl ⟨by rfl, ?_⟩) ?_ ?_
               rotate_left
               ·intro w'
                go_simp
                with_reducible rfl
               rotate_left
               ·simp only [Act.put, List.setIfInBounds_toArray, List.set_cons_zero, List.set_cons_succ, i64_w, i32_w]
                rfl
               refine take_ (i := 5) (N := some 22) (v := ?_) (a' := ?_) #[true, true, true, true, true, true, true, true, false, false, false, false, false, false, false] rfl rfl (take_ofW HT_.out HW_.out (by kernel_rfl)) (fun _ _ _ h => h) (Or.inl ⟨by rfl, ?_⟩) hHeld ?_ ?_
               rotate_left
               ·rintro w' ⟨s0, s1, s2, s3, s4⟩
                go_simp
                with_reducible rfl
               rotate_left
               ·simp only [Act.put, List.setIfInBounds_toArray, List.set_cons_zero, List.set_cons_succ, i64_w, i32_w]
                rfl
               refine take_ (i := 8) (N := some 25) (v := ?_) (a' := ?_) #[true, true, true, true, true, true, true, true, true, false, false, false, false, false, false] rfl rfl (take_ofW HT_.out HW_.out (by kernel_rfl)) (fun _ _ _ h => h) (Or.inl ⟨by rfl, ?_⟩) hHeld ?_ ?_
               rotate_left
               ·rintro w' ⟨s0, s1, s2, s3, s4⟩
                go_simp
                with_reducible rfl
               rotate_left
               ·simp only [Act.put, List.setIfInBounds_toArray, List.set_cons_zero, List.set_cons_succ, i64_w, i32_w]
                rfl
               refine pure_ (i := 9) (N := some 26) (v := ?_) (a' := ?_) #[true, true, true, true, true, true, true, true, true, true, false, false, false, false, false] rfl rfl (any_of HT_.out (by kernel_rfl)) (fun _ _ _ h => h) (Or.inl ⟨by rfl, ?_⟩) ?_ ?_
               rotate_left
               ·intro w'
                go_simp
                with_reducible rfl
               rotate_left
               ·simp only [Act.put, List.setIfInBounds_toArray, List.set_cons_zero, List.set_cons_succ, i64_w, i32_w]
                rfl
               refine take_ (i := 10) (N := some 27) (v := ?_) (a' := ?_) #[true, true, true, true, true, true, true, true, true, true, true, false, false, false, false] rfl rfl (take_ofW HT_.out HW_.out (by kernel_rfl)) (fun _ _ _ h => h) (Or.inl ⟨by rfl, ?_⟩) hHeld ?_ ?_
               rotate_left
               ·rintro w' ⟨s0, s1, s2, s3, s4⟩
                go_simp
                with_reducible rfl
               rotate_left
               ·simp only [Act.put, List.setIfInBounds_toArray, List.set_cons_zero, List.set_cons_succ, i64_w, i32_w]
                rfl
               refine pure_ (i := 11) (N := some 28) (v := ?_) (a' := ?_) #[true, true, true, true, true, true, true, true, true, true, true, true, false, false, false] rfl rfl (any_of HT_.out (by kernel_rfl)) (fun _ _ _ h => h) (Or.inl ⟨by rfl, ?_⟩) ?_ ?_
               rotate_left
               ·intro w'
                go_simp
                with_reducible rfl
               rotate_left
               ·simp only [Act.put, List.setIfInBounds_toArray, List.set_cons_zero, List.set_cons_succ, i64_w, i32_w]
                rfl
               refine last_ (i := 12) (N := some 29) #[true, true, true, true, true, true, true, true, true, true, true, true, true, false, false] rfl rfl (one_of HT_.out (by kernel_rfl)) (by decide) (fun K hK => ?_)
               refine value_ (w1 := ?_) (v := ?_) (by rfl) rfl ?_ ?_
               rotate_left 2
               ·go_simp
                constructor
                ·rfl
                ·rfl
               refine hK.out _ _ ?_
               clear hK K
               refine norm_ (a' := ?_) ?_ ?_
               rotate_left
               ·show Act.put _ (some 29) _ = _
                simp only [Act.put, List.setIfInBounds_toArray, List.set_cons_zero, List.set_cons_succ, i64_w, i32_w]
                rfl
               refine last_ (i := 13) (N := some 30) #[true, true, true, true, true, true, true, true, true, true, true, true, true, true, false] rfl rfl (one_of HT_.out (by kernel_rfl)) (by decide) (fun K hK => ?_)
               refine Kd.R_append_step Kd.bool (w0 := w) w.heap.size (by rfl) (.tmp 17) (.tmp 29) 37 4 (.bool false) 1 rfl Try.underlying37 info4 rfl (by decide) (by omega) (.slice (some ad461) x5_1.length co64) x5_1 ((rdOf false x5_1 ((rd_T69 l0 x11_1).f1)) != (rdOf false x5_1 ((rd_T69 l0 x11_1).f2))) [.bool ((rdOf false x5_1 ((rd_T69 l0 x11_1).f1)) != (rdOf false x5_1 ((rd_T69 l0 x11_1).f2)))] (fun _ => True) (fun _ => False) rfl rfl ?aP (fun _ hk => hk.elim) ?aF ?aO ?aB ?aS ?aL ?_
               (case aP => exact rfl)
               (case aB => exact (bq_))
               (case aF => exact (fun _ _ => trivial))
               (case aO => exact (rq_ HO_5.out))
               (case aS => exact (below_size (bq_)))
               (case aL => have := LMc59.out; omega)
               intro v464 w65 ho hb hg hat
               rw [← Ny463.out] at ho
               replace BK436 := am_ (blk_grown (bk_ BK436.out) hg (Kd.R_ne HO_5.out BK436.out (by decide)))
               replace HB := am_ (hb)
               have HO465 := am_ (ho)
               clear HO_5 ho hb hg hat
               refine hK.out _ _ ?_
               clear hK K
               refine norm_ (a' := ?_) ?_ ?_
               rotate_left
               ·show Act.put _ (some 30) _ = _
                simp only [Act.put, List.setIfInBounds_toArray, List.set_cons_zero, List.set_cons_succ, i64_w, i32_w]
                rfl
               refine pure_ (i := 14) (N := some 5) (v := ?_) (a' := ?_) #[true, true, true, true, true, true, true, true, true, true, true, true, true, true, true] rfl rfl (any_of HT_.out (by kernel_rfl)) (fun _ _ _ h => h) (Or.inl ⟨by rfl, ?_⟩) ?_ ?_
               rotate_left
               ·intro w'
                go_simp
                with_reducible rfl
               rotate_left
               ·simp only [Act.put, List.setIfInBounds_toArray, List.set_cons_zero, List.set_cons_succ, i64_w, i32_w]
                rfl
               refine done_ (done_of HT_.out (by kernel_rfl)) ?_
               try go_wp2
               go_roundg k1
               case measure => have := HK1.out; omega
               case rel => exact ⟨(y463), (x6_1), (wrap64 (x11_1 + 1)), y53_, y53_, H', ⟨by have := HK1.out; omega⟩, ⟨rq_ HO465.out⟩, ⟨bq_⟩⟩
              ·rw [if_neg c59] at H
               exact absurd H (by simp)
             ·rw [if_neg c58] at H
              exact absurd H (by simp)
            ·rw [if_neg c57] at H
             exact absurd H (by simp)
           ·rw [if_neg c56] at H
            exact absurd H (by simp)
          ·rw [if_neg c55] at H
           exact absurd H (by simp)
     ·rw [if_neg c5] at H
      exact absurd H (by simp)
    ·rw [if_neg c4] at H
     exact absurd H (by simp)
   ·rw [if_neg c3] at H
    have c3b0 : decide (x11_1 < (l0.length : Int)) = false := decide_eq_false c3
    clear c3
    obtain rfl := Option.some.inj H
    go_wp2
    go_ret
    exact ⟨_, by first | rfl | (simp [errW_none, errW_some] <;> rfl) | (simp [*, errW_none, errW_some] <;> rfl), rq_ HO_5.out, bq_⟩
end Go.Proofs.Ytgahidilhjijiaa.PGT
