import Derived.Test.YtcmhkgpalfljbaaPPAx0
import Derived.Test.YtcmhkgpalfljbaaPPAx5
import Derived.Test.YtcmhkgpalfljbaaPPAx6
namespace Go.Proofs.Ytcmhkgpalfljbaa.PPA
open Go.RowKit Go.Proofs.YtcmhkgpalfljbaaW.PrintWords Go.Proofs.YtcmhkgpalfljbaaW.PrintLast Go.Proofs.YtcmhkgpalfljbaaW.PrintMore
attribute [local go_sem] max2_int min2_int max_two min_two max_three min_three max_four min_four   -- for this text's walks alone
set_option linter.unusedVariables false
set_option linter.unusedSimpArgs false
mutual
def impl_wayCount.l0 : Nat → List (S51) → Int → Int → List Int → Int → Int → Option (Int)
 | 0, _, _, _, _, _, _ => none
 | k + 1, x0, x1, x2, x7, x17, x18 => if x18 < x17 then (if x18 = x2 then (if 0 ≤ x18 then (if x18 < (x7.length : Int) then (impl_wayCount.j1 k x0 x1 x2 (x7.set (x18 : Int).toNat 0) x18 x17 x18) else (none)) else (none)) else (impl_wayCount.j1 k x0 x1 x2 x7 x18 x17 x18)) else (if 0 ≤ x1 then (if x1 < (x7.length : Int) then (some (rd x7 x1)) else (none)) else (none))
def impl_wayCount.j1 : Nat → List (S51) → Int → Int → List Int → Int → Int → Int → Option (Int)
 | 0, _, _, _, _, _, _, _ => none
 | k + 1, x0, x1, x2, x7, x8, x17, x18 => (impl_nexts.f x0 x8).bind fun t267 => (impl_wayCount.l1 k x0 x1 x2 x7 x8 x17 x18 t267 (t267.length : Int) 0)
def impl_wayCount.l1 : Nat → List (S51) → Int → Int → List Int → Int → Int → Int → List Int → Int → Int → Option (Int)
 | 0, _, _, _, _, _, _, _, _, _, _ => none
 | k + 1, x0, x1, x2, x7, x8, x17, x18, x29, x30, x31 => if x31 < x30 then (if 0 ≤ x31 then (if x31 < (x29.length : Int) then (if 0 ≤ (rd x29 x31) then (if (rd x29 x31) < (x7.length : Int) then (if 0 ≤ x8 then (if x8 < (x7.length : Int) then (impl_wayCount.l1 k x0 x1 x2 (x7.set ((rd x29 x31) : Int).toNat (wrap64 ((rd x7 (rd x29 x31)) + (rd x7 x8)))) x8 x17 x18 x29 x30 (wrap64 (x31 + 1))) else (none)) else (none)) else (none)) else (none)) else (none)) else (none)) else (impl_wayCount.l0 k x0 x1 x2 x7 x17 (wrap64 (x18 + 1)))
end
def impl_wayCount.f (k : Nat) (l0 : List (S51)) (a1 : Int) (a2 : Int) : Option (Int) := if 0 ≤ (l0.length : Int) then (if ((l0.length : Int) : Int).toNat ≤ 35184372088832 then ((some (List.replicate ((l0.length : Int) : Int).toNat 0 : List Int)).bind fun y261 => (if 0 < (y261.length : Int) then (impl_wayCount.l0 k l0 a1 a2 (y261.set (0 : Int).toNat 1) (l0.length : Int) 0) else (none))) else (none)) else (none)
def impl_wayCount.T11 : Bool × List (List Nat × List Nat) := (true, [([], []), ([], []), ([0, 1], [0, 1]), ([2], [2]), ([], []), ([], []), ([4, 5], [4, 5]), ([6], [6]), ([3, 7], [3, 7]), ([0, 1, 0, 1, 2, 3, 4, 5, 6, 7, 8], [0, 1]), ([9, 8, 0, 1, 2, 3, 4, 5, 6, 7, 8], [8, 9])])
def impl_wayCount.B11 : List Nat := [0, 0, 3, 7, 0, 0, 48, 112, 255, 511, 1023]
theorem impl_wayCount.tab11 : rtab .any (opsOf Try.f45 11) = impl_wayCount.T11 := by kernel_rfl
theorem impl_wayCount.bits11 : waitsOk impl_wayCount.T11.2 impl_wayCount.B11 = true := by kernel_rfl
set_option maxHeartbeats 8000000 in
set_option maxRecDepth 100000 in
theorem impl_wayCount.calls (k : Nat) (A0 : Option Addr) (c0 : Nat) (l0 : List (S51)) (a1 : Int) (a2 : Int) (r : Int) (w : World) (hr0 : Kd.C k51 w A0 l0.length l0) (hc0 : l0.length ≤ c0) (h : impl_wayCount.f k l0 a1 a2 = some r) :
  Calls Try.prog 45 #[.slice A0 l0.length c0, .int .i64 a1, .int .i64 a2] w fun e w' => e = .returned (.int .i64 r) ∧ Below w.heap.size w w' := by
 have HR0 := am_ hr0
 have HC0 := am_ hc0
 clear hr0 hc0
 have HB := am_ (Below.refl w.heap.size w)
 have H : (if 0 ≤ (l0.length : Int) then (if ((l0.length : Int) : Int).toNat ≤ 35184372088832 then ((some (List.replicate ((l0.length : Int) : Int).toNat 0 : List Int)).bind fun y261 => (if 0 < (y261.length : Int) then (impl_wayCount.l0 k l0 a1 a2 (y261.set (0 : Int).toNat 1) (l0.length : Int) 0) else (none))) else (none)) else (none)) = some r := h
 clear h
 by_cases c4 : 0 ≤ (l0.length : Int)
 ·rw [if_pos c4] at H
  have c4b0 := eq_true c4
  have c4b1 : decide (0 ≤ (l0.length : Int)) = true := decide_eq_true c4
  clear c4
  by_cases c5 : ((l0.length : Int) : Int).toNat ≤ 35184372088832
  ·rw [if_pos c5] at H
   have c5b0 := eq_true c5
   have c5b1 : decide (((l0.length : Int) : Int).toNat ≤ 35184372088832) = true := decide_eq_true c5
   clear c5
   obtain ⟨y261, hy261⟩ : ∃ y_ : List Int, y_ = (List.replicate ((l0.length : Int) : Int).toNat 0) := ⟨_, rfl⟩
   replace H : (if 0 < (y261.length : Int) then (impl_wayCount.l0 k l0 a1 a2 (y261.set (0 : Int).toNat 1) (l0.length : Int) 0) else (none)) = some r := by first | (rw [hy261]; with_reducible exact H) | (have H2_ := (Option.bind_some _ _).symm.trans H; rw [hy261]; with_reducible exact H2_) | (have H2_ := (Option.bind_some _ _).symm.trans H; with_reducible exact H2_) | with_reducible exact H | (rw [hy261]; exact H) | exact H
   have Ny261 := am_ hy261
   clear hy261
   by_cases c6 : 0 < (y261.length : Int)
   ·rw [if_pos c6] at H
    have c6b0 : decide (0 < (y261.length : Int)) = true := decide_eq_true c6
    have c6b1 : decide (0 < y261.length) = true := decide_eq_true (by omega)
    clear c6
    obtain ⟨y264, hy264⟩ : ∃ y_ : List Int, y_ = (y261.set (0 : Int).toNat 1) := ⟨_, rfl⟩
    replace H : (impl_wayCount.l0 k l0 a1 a2 y264 (l0.length : Int) 0) = some r := by first | (rw [hy264]; with_reducible exact H) | (have H2_ := (Option.bind_some _ _).symm.trans H; rw [hy264]; with_reducible exact H2_) | (have H2_ := (Option.bind_some _ _).symm.trans H; with_reducible exact H2_) | with_reducible exact H | (rw [hy264]; exact H) | exact H
    have Ny264 := am_ hy264
    clear hy264
    have H' := am_ H
    clear H
    go_enter Try.func45, Try.ntmps45
    go_wp2_with (first | ((with_reducible refine gate_dst (N := 13) rfl ?_); refine Kd.R_make (Kd.int .i64) _ 3 rfl (N := 13) rfl 30 _ _ rfl (l0.length : Int) rfl rfl Try.underlying30 (.int .i64 0) 8 info3 rfl (by decide) (by omega) 0 (ok := fun _ => True) (okp := fun _ => True) rfl (fun _ hk => hk) trivial (od_) (Nat.le_trans (Nat.mul_le_mul_right _ (od_ : (l0.length : Int).toNat ≤ 35184372088832)) (by omega)) (Below.refl _ _) (Nat.le_refl _) ?_; intro v262 w8 ho9 hb hg_ hnew_; clear hg_ hnew_; (first | rw [← Ny261.out] at ho9 | (simp only [Int.reduceToNat] at ho9; rw [← Ny261.out] at ho9)); have HO263 := am_ (Kd.R_lower ho9 (below_size (bq_))); replace HB := bs_ hb; clear hb ho9; have p7 : 0 ≤ (0 : Int) := (by omega); have q7 : (0 : Int) < ((y261.length : Int) : Int) := od_; have qi7 : (0 < y261.length) = True := eq_true (by omega); obtain ⟨go7, co7, eo7, gb7, gl7, cl7, HG7⟩ := Kd.R_form HO263.out (by omega); (first | cases eo7 | (injection eo7 with ea_ en_ ec_; (first | subst ea_ | (injection ea_ with ea_; subst ea_)); subst ec_; clear en_)); have GB7 := am_ gb7; have GG7 := am_ HG7; clear gb7 gl7 HG7; obtain ⟨hx7_0, hf7_0⟩ := Kd.R_celln 0 HO263.out (0 : Int) p7 q7; (try rw [show ((0 : Int)).toNat = 0 from rfl] at hx7_0); (try simp only [Nat.reduceMul, Nat.zero_mul, Nat.zero_add, Nat.reduceAdd] at hx7_0); (try rw [show ((0 : Int)).toNat = 0 from rfl] at hf7_0); (try simp only [Nat.reduceMul, Nat.zero_mul, Nat.zero_add, Nat.reduceAdd] at hf7_0); replace p7 := eq_true p7; replace q7 := eq_true q7; obtain ⟨hy10_, hz10_⟩ := Kd.R_celln 0 HO263.out (0 : Int) (by omega) (od_); (try simp only [Int.reduceToNat, Int.toNat_zero, Int.toNat_ofNat, Nat.reduceMul, Nat.zero_mul, Nat.zero_add] at hy10_ hz10_); (try rw [show ((0 : Int)).toNat = 0 from rfl] at hy10_); (try rw [show ((0 : Int)).toNat = 0 from rfl] at hz10_); have HP10 := Kd.R_putg HO263.out (0 : Int) 1) | ((with_reducible refine gate_store (t := 3) (p := 15) rfl ?_); refine store_event (t := 3) (p := 15) (v := ?vo_w11) (w1 := (w8.setCell ⟨go7, (0 : Int).toNat, none⟩ (.int .i64 1))) ?hg ?ho ?hn ?hr ?_; (case ho => rfl); (case hg => rfl); (case hn => rfl); (case hr => first | (go_simp; done) | (go_simp; rfl)); intro w11 hw; have hg : w8.grownBy w11 (some go7) := (by rw [hw]; exact HP10.2); have hp_ : Kd.R (Kd.int .i64) 3 w11 w.heap.size (fun _ => True) (.slice (some ⟨go7, 0, none⟩) y261.length co7) y264 := (by rw [hw, Ny264.out]; exact HP10.1); clear HP10; replace HO263 := am_ (hp_); replace HB := am_ ((y15_ : Below w.heap.size w w11)); clear hg hw hp_))
    go_loopg [18] k (fun kq v18 w' => ∃ (x7_1 : List Int) (x18_1 : Int), v18 = .int .i64 x18_1 ∧ Aside0 (impl_wayCount.l0 kq l0 a1 a2 x7_1 (l0.length : Int) x18_1 = some r) ∧ Aside0 (kq ≤ k) ∧ Aside0 (Kd.R (Kd.int .i64) 3 w' w.heap.size (fun _ => True) (.slice (some ⟨go7, 0, none⟩) y261.length co7) x7_1) ∧ Aside0 (Below w.heap.size w w'))
    case atStart => exact ⟨(y264), (0), y14_, H', ⟨Nat.le_refl _⟩, ⟨rq_ HO263.out⟩, ⟨bq_⟩⟩
    case round =>
     clear H'
     try clear p2
     try clear c4
     try clear c4b0
     try clear c4b1
     try clear c5
     try clear c5b0
     try clear c5b1
     try clear c6
     try clear c6b0
     try clear c6b1
     try clear p7
     try clear q7
     try clear hx7
     try clear qi7
     try clear hf7
     try clear hx7_0
     try clear p7
     try clear q7
     obtain ⟨x7_1, x18_1, rfl, HA, HK1, HO_7, HB⟩ := hrel
     have hl7_1 := (Kd.R_reads' HO_7.out).1
     rw [hl7_1] at HO_7
     (try simp only [hl7_1])
     cases gk with
     | zero => exact absurd HA.out (by simp [impl_wayCount.l0])
     | succ k1 =>
      have H := HA.out
      clear HA
      simp only [impl_wayCount.l0] at H
      by_cases c12 : x18_1 < (l0.length : Int)
      ·rw [if_pos c12] at H
       have c12b0 : decide (x18_1 < (l0.length : Int)) = true := decide_eq_true c12
       (try (have c12hhl7_1 := c12b0; simp only [hl7_1] at c12hhl7_1))
       clear c12
       have HC13 := am_ H
       clear H
       go_upto_if 23 with (fail)
       go_cut [] (fun wc => ∃ (kq : Nat) (x7_12 : List Int), Aside0 (impl_wayCount.j1 kq l0 a1 a2 x7_12 x18_1 (l0.length : Int) x18_1 = some r) ∧ Aside0 (kq ≤ k1) ∧ Aside0 (Kd.R (Kd.int .i64) 3 wc w.heap.size (fun _ => True) (.slice (some ⟨go7, 0, none⟩) x7_1.length co7) x7_12) ∧ Aside0 (Below w.heap.size w wc))
       case first =>
        have H := HC13.out
        clear HC13
        by_cases c14 : x18_1 = a2
        ·rw [if_pos c14] at H
         have c14b0 : (x18_1 == a2) = true := beq_iff_eq.mpr c14
         have c14b1 : (x18_1 != a2) = false := bne_eq_false_iff_eq.mpr c14
         clear c14
         (first | rw [c14b0] | (simp only [i64_w, i32_w]; rw [c14b0]) | skip)
         by_cases c15 : 0 ≤ x18_1
         ·rw [if_pos c15] at H
          have c15b0 : decide (0 ≤ x18_1) = true := decide_eq_true c15
          clear c15
          by_cases c16 : x18_1 < (x7_1.length : Int)
          ·rw [if_pos c16] at H
           have c16b0 : decide (x18_1 < (x7_1.length : Int)) = true := decide_eq_true c16
           (try (have c16hhl7_1 := c16b0; simp only [hl7_1] at c16hhl7_1))
           clear c16
           obtain ⟨y266, hy266⟩ : ∃ y_ : List Int, y_ = (x7_1.set (x18_1 : Int).toNat 0) := ⟨_, rfl⟩
           replace H : (impl_wayCount.j1 k1 l0 a1 a2 y266 x18_1 (l0.length : Int) x18_1) = some r := by first | (rw [hy266]; with_reducible exact H) | (have H2_ := (Option.bind_some _ _).symm.trans H; rw [hy266]; with_reducible exact H2_) | (have H2_ := (Option.bind_some _ _).symm.trans H; with_reducible exact H2_) | with_reducible exact H | (rw [hy266]; exact H) | exact H
           have Ny266 := am_ hy266
           clear hy266
           have H' := am_ H
           clear H
           have p17 : 0 ≤ (x18_1 : Int) := od_
           have q17 : (x18_1 : Int) < ((x7_1.length : Int) : Int) := od_
           obtain ⟨hx17_0, hf17_0⟩ := Kd.R_celln 0 HO_7.out (x18_1 : Int) p17 q17
           replace p17 := eq_true p17
           replace q17 := eq_true q17
           have HP18 := Kd.R_putg HO_7.out (x18_1 : Int) 0
           go_wp2_with (first | ((with_reducible refine gate_store (t := 3) (p := 26) rfl ?_); refine store_event (t := 3) (p := 26) (v := ?vo_w19) (w1 := (wr.setCell ⟨go7, (x18_1 : Int).toNat, none⟩ (.int .i64 0))) ?hg ?ho ?hn ?hr ?_; (case ho => rfl); (case hg => rfl); (case hn => rfl); (case hr => first | (go_simp; done) | (go_simp; rfl)); intro w19 hw; have hg : wr.grownBy w19 (some go7) := (by rw [hw]; exact HP18.2); have hp_ : Kd.R (Kd.int .i64) 3 w19 w.heap.size (fun _ => True) (.slice (some ⟨go7, 0, none⟩) x7_1.length co7) y266 := (by rw [hw, Ny266.out]; exact HP18.1); clear HP18; replace HO_7 := am_ (hp_); replace HB := am_ ((y15_ : Below w.heap.size w w19)); clear hg hw hp_))
           go_meet
           case rel => exact ⟨_, (y266), H', ⟨by have := HK1.out; first | omega | exact Nat.le_refl _⟩, ⟨by (try simp only [hl7_1]); (with_reducible repeat (first | apply Kd.R_alloc | apply Kd.R_drewN | apply Kd.R_drew)); exact HO_7.out⟩, ⟨bq_⟩⟩
          ·rw [if_neg c16] at H
           exact absurd H (by simp)
         ·rw [if_neg c15] at H
          exact absurd H (by simp)
        ·rw [if_neg c14] at H
         have c14b0 : (x18_1 == a2) = false := beq_eq_false_iff_ne.mpr c14
         have c14b1 : (x18_1 != a2) = true := bne_iff_ne.mpr c14
         (first | rw [c14b0] | (simp only [i64_w, i32_w]; rw [c14b0]) | skip)
         have H' := am_ H
         clear H
         go_wp2
         go_meet
         case rel => exact ⟨_, (x7_1), H', ⟨by have := HK1.out; first | omega | exact Nat.le_refl _⟩, ⟨by (try simp only [hl7_1]); (with_reducible repeat (first | apply Kd.R_alloc | apply Kd.R_drewN | apply Kd.R_drew)); exact HO_7.out⟩, ⟨bq_⟩⟩
       case rest =>
        clear HC13
        try clear c1
        try clear p1
        try clear q1
        try clear hx1
        try clear p2
        try clear c4
        try clear c4b0
        try clear c4b1
        try clear c5
        try clear c5b0
        try clear c5b1
        try clear c6
        try clear c6b0
        try clear c6b1
        try clear p7
        try clear q7
        try clear hx7
        try clear qi7
        try clear hf7
        try clear c12
        try clear c12b0
        try clear c14
        try clear c14b0
        try clear c14b1
        try clear c15
        try clear c15b0
        try clear c16
        try clear c16b0
        try clear p17
        try clear q17
        try clear hx17
        try clear hf17
        try clear hx17_0
        try clear hx7_0
        try clear p17
        try clear p2
        try clear p7
        try clear q17
        try clear q7
        obtain ⟨kq, x7_12, HA, HJ12, HO_7, HB⟩ := hcut
        have hl7_12 := (Kd.R_reads' HO_7.out).1
        rw [hl7_12] at HO_7
        (try simp only [hl7_12])
        cases kq with
        | zero => exact absurd HA.out (by simp [impl_wayCount.j1])
        | succ kj12 =>
         have H := HA.out
         clear HA
         simp only [impl_wayCount.j1] at H
         replace H := Option.bind_eq_some_iff.mp H
         obtain ⟨t267, A200, H⟩ := H
         replace H : (impl_wayCount.l1 kj12 l0 a1 a2 x7_12 x18_1 (l0.length : Int) x18_1 t267 (t267.length : Int) 0) = some r := H
         have A20 := am_ A200
         clear A200
         have H' := am_ H
         clear H
         go_wp2_with (first | ((with_reducible refine gl_ 61 rfl ?_); refine goesM_ (some 29) Try.func61 #[.slice A0 l0.length c0, .int .i64 x18_1] ?_; (with_reducible refine (impl_nexts.calls _ _ l0 x18_1 t267 _ ?side1 ?side2 A20.out).mono ?_); (case side1 => exact cm_ (Kd.C_below HR0.out HB.out)); (case side2 => exact HC0.out); rintro e w21 ⟨v268, rfl, ho0, hb⟩; refine ⟨_, rfl, ?_⟩; have HO269 := am_ (Kd.R_lower (Kd.R_new' ho0 (Kd.R_lt (rq_ HO_7.out))) (below_size (bq_))); replace HO_7 := am_ (Kd.R_elder' (rq_ HO_7.out) (Kd.R_base ho0) hb); replace HB := bs_ hb; (try clear hb); (try clear ho0); obtain ⟨Ao22, co22, eo22⟩ := Kd.R_slice HO269.out; subst eo22))
         go_loopg [31] kj12 (fun kq v31 w' => ∃ (x7_3 : List Int) (x31_3 : Int), v31 = .int .i64 x31_3 ∧ Aside0 (impl_wayCount.l1 kq l0 a1 a2 x7_3 x18_1 (l0.length : Int) x18_1 t267 (t267.length : Int) x31_3 = some r) ∧ Aside0 (kq ≤ kj12) ∧ Aside0 (Kd.R (Kd.int .i64) 3 w' w.heap.size (fun k_ => some k_ ≠ ((.slice Ao22 t267.length co22) : Value).ownBlock) (.slice (some ⟨go7, 0, none⟩) x7_12.length co7) x7_3) ∧ Aside0 (Kd.R (Kd.int .i64) 3 w' w.heap.size (fun k_ => some k_ ≠ ((.slice (some ⟨go7, 0, none⟩) x7_12.length co7) : Value).ownBlock) (.slice Ao22 t267.length co22) t267) ∧ Aside0 (Below w.heap.size w w'))
         case atStart => exact ⟨(x7_12), (0), y14_, H', ⟨Nat.le_refl _⟩, ⟨by (try simp only [hl7_1]); (try simp only [hl7_12]); (with_reducible repeat (first | apply Kd.R_alloc | apply Kd.R_drewN | apply Kd.R_drew)); exact Kd.R_mono HO_7.out (fun _ hk => hk.2)⟩, ⟨by (try simp only [hl7_1]); (try simp only [hl7_12]); (with_reducible repeat (first | apply Kd.R_alloc | apply Kd.R_drewN | apply Kd.R_drew)); exact Kd.R_mono HO269.out (fun _ hk => hk.2)⟩, ⟨bq_⟩⟩
         case round =>
          clear H'
          try clear c1
          try clear p1
          try clear q1
          try clear hx1
          try clear p2
          try clear c4
          try clear c4b0
          try clear c4b1
          try clear c5
          try clear c5b0
          try clear c5b1
          try clear c6
          try clear c6b0
          try clear c6b1
          try clear p7
          try clear q7
          try clear hx7
          try clear qi7
          try clear hf7
          try clear c12
          try clear c12b0
          try clear c14
          try clear c14b0
          try clear c14b1
          try clear c15
          try clear c15b0
          try clear c16
          try clear c16b0
          try clear p17
          try clear q17
          try clear hx17
          try clear hf17
          try clear hx17_0
          try clear hx7_0
          try clear p1
          try clear p17
          try clear p2
          try clear p7
          try clear q1
          try clear q17
          try clear q7
          obtain ⟨x7_3, x31_3, rfl, HA, HK3, HO_7, HO_29, HB⟩ := hrel
          have hl7_3 := (Kd.R_reads' HO_7.out).1
          rw [hl7_3] at HO_7
          (try simp only [hl7_3])
          (try simp only [hl7_3] at HO_29)
          cases gk with
          | zero => exact absurd HA.out (by simp [impl_wayCount.l1])
          | succ k3 =>
           have H := HA.out
           clear HA
           simp only [impl_wayCount.l1] at H
           by_cases c23 : x31_3 < (t267.length : Int)
           ·rw [if_pos c23] at H
            have c23b0 : decide (x31_3 < (t267.length : Int)) = true := decide_eq_true c23
            (try (have c23hhl7_1 := c23b0; simp only [hl7_1] at c23hhl7_1))
            (try (have c23hhl7_12 := c23b0; simp only [hl7_12] at c23hhl7_12))
            (try (have c23hhl7_3 := c23b0; simp only [hl7_3] at c23hhl7_3))
            clear c23
            by_cases c24 : 0 ≤ x31_3
            ·rw [if_pos c24] at H
             have c24b0 : decide (0 ≤ x31_3) = true := decide_eq_true c24
             clear c24
             by_cases c25 : x31_3 < (t267.length : Int)
             ·rw [if_pos c25] at H
              have c25b0 : decide (x31_3 < (t267.length : Int)) = true := decide_eq_true c25
              (try (have c25hhl7_1 := c25b0; simp only [hl7_1] at c25hhl7_1))
              (try (have c25hhl7_12 := c25b0; simp only [hl7_12] at c25hhl7_12))
              (try (have c25hhl7_3 := c25b0; simp only [hl7_3] at c25hhl7_3))
              clear c25
              by_cases c26 : 0 ≤ (rd t267 x31_3)
              ·rw [if_pos c26] at H
               have c26b0 : decide (0 ≤ (rd t267 x31_3)) = true := decide_eq_true c26
               clear c26
               by_cases c27 : (rd t267 x31_3) < (x7_3.length : Int)
               ·rw [if_pos c27] at H
                have c27b0 : decide ((rd t267 x31_3) < (x7_3.length : Int)) = true := decide_eq_true c27
                (try (have c27hhl7_1 := c27b0; simp only [hl7_1] at c27hhl7_1))
                (try (have c27hhl7_12 := c27b0; simp only [hl7_12] at c27hhl7_12))
                (try (have c27hhl7_3 := c27b0; simp only [hl7_3] at c27hhl7_3))
                clear c27
                by_cases c28 : 0 ≤ x18_1
                ·rw [if_pos c28] at H
                 have c28b0 : decide (0 ≤ x18_1) = true := decide_eq_true c28
                 clear c28
                 by_cases c29 : x18_1 < (x7_3.length : Int)
                 ·rw [if_pos c29] at H
                  have c29b0 : decide (x18_1 < (x7_3.length : Int)) = true := decide_eq_true c29
                  (try (have c29hhl7_1 := c29b0; simp only [hl7_1] at c29hhl7_1))
                  (try (have c29hhl7_12 := c29b0; simp only [hl7_12] at c29hhl7_12))
                  (try (have c29hhl7_3 := c29b0; simp only [hl7_3] at c29hhl7_3))
                  clear c29
                  obtain ⟨y273, hy273⟩ : ∃ y_ : List Int, y_ = (x7_3.set ((rd t267 x31_3) : Int).toNat (wrap64 ((rd x7_3 (rd t267 x31_3)) + (rd x7_3 x18_1)))) := ⟨_, rfl⟩
                  replace H : (impl_wayCount.l1 k3 l0 a1 a2 y273 x18_1 (l0.length : Int) x18_1 t267 (t267.length : Int) (wrap64 (x31_3 + 1))) = some r := by first | (rw [hy273]; with_reducible exact H) | (have H2_ := (Option.bind_some _ _).symm.trans H; rw [hy273]; with_reducible exact H2_) | (have H2_ := (Option.bind_some _ _).symm.trans H; with_reducible exact H2_) | with_reducible exact H | (rw [hy273]; exact H) | exact H
                  have Ny273 := am_ hy273
                  clear hy273
                  have H' := am_ H
                  clear H
                  have p270 : 0 ≤ (x31_3 : Int) := od_
                  have q270 : x31_3 < (t267.length : Int) := od_
                  obtain ⟨ad270, e270, hx270_0⟩ := Kd.at_int (Kd.R_reads' HO_29.out).2.2 x31_3 p270 q270
                  cases e270
                  replace p270 := eq_true p270
                  replace q270 := eq_true q270
                  try go_wp2
                  replace HO_7 := am_ (Kd.R_drew HO_7.out)
                  replace HO_29 := am_ (Kd.R_drew HO_29.out)
                  replace HB := am_ (below_drew1 HB.out)
                  have p271 : 0 ≤ ((rd t267 x31_3) : Int) := od_
                  have q271 : (rd t267 x31_3) < (x7_3.length : Int) := od_
                  obtain ⟨ad271, e271, hx271_0⟩ := Kd.at_int (Kd.R_reads' HO_7.out).2.2 (rd t267 x31_3) p271 q271
                  obtain rfl : (⟨go7, 0, none⟩ : Addr) = ad271 := (by injection e271)
                  (first | simp only [add_plain] at hx271_0 | simp only [add_at] at hx271_0 | simp only [Addr.add, Nat.zero_add] at hx271_0 | skip)
                  replace p271 := eq_true p271
                  replace q271 := eq_true q271
                  have p272 : 0 ≤ (x18_1 : Int) := od_
                  have q272 : x18_1 < (x7_3.length : Int) := od_
                  obtain ⟨ad272, e272, hx272_0⟩ := Kd.at_int (Kd.R_reads' HO_7.out).2.2 x18_1 p272 q272
                  obtain rfl : (⟨go7, 0, none⟩ : Addr) = ad272 := (by injection e272)
                  (first | simp only [add_plain] at hx272_0 | simp only [add_at] at hx272_0 | simp only [Addr.add, Nat.zero_add] at hx272_0 | skip)
                  replace p272 := eq_true p272
                  replace q272 := eq_true q272
                  have p30 : 0 ≤ ((rd t267 x31_3) : Int) := od_
                  have q30 : ((rd t267 x31_3) : Int) < ((x7_3.length : Int) : Int) := od_
                  obtain ⟨hx30_0, hf30_0⟩ := Kd.R_celln 0 HO_7.out ((rd t267 x31_3) : Int) p30 q30
                  replace p30 := eq_true p30
                  replace q30 := eq_true q30
                  have HP32 := Kd.R_putn HO_7.out ((rd t267 x31_3) : Int) (wrap64 ((rd x7_3 (rd t267 x31_3)) + (rd x7_3 x18_1)))
                  rw [← Ny273.out] at HP32
                  have HQ32 := am_ HP32
                  clear HP32
                  refine start_ (n := 11) (S := fun w' => w'.cell? ⟨go7, ((rd t267 x31_3)).toNat, none⟩ = some (.int .i64 (rd x7_3 (rd t267 x31_3))) ∧ w'.cell? ⟨go7, (x18_1).toNat, none⟩ = some (.int .i64 (rd x7_3 x18_1))) (ds := [10]) #[false, false, false, false, false, false, false, false, false, false, false] (by kernel_rfl) rfl rfl ⟨hx271_0, hx272_0⟩ (fun hHeld => ?_); refine with_tabW impl_wayCount.tab11 impl_wayCount.bits11 (fun HT_ HW_ => ?_)
                  generalize wr.drew = w31 at HO_7 HO_29 HB HQ32 hf30_0 hx271_0 hx272_0 hx30_0 hHeld ⊢
                  refine pure_ (i := 0) (N := some 35) (v := ?_) (a' := ?_) #[true, false, false, false, false, false, false, false, false, false, false] rfl rfl (any_of HT_.out (by kernel_rfl)) (fun _ _ _ h => h) (Or.inl ⟨by rfl, ?_⟩) ?_ ?_
                  rotate_left
                  ·intro w'
                   go_simp
                   with_reducible rfl
                  rotate_left
                  ·simp only [Act.put, List.setIfInBounds_toArray, List.set_cons_zero, List.set_cons_succ, i64_w, i32_w]
                   rfl
                  refine pure_ (i := 1) (N := some 36) (v := ?_) (a' := ?_) #[true, true, false, false, false, false, false, false, false, false, false] rfl rfl (any_of HT_.out (by kernel_rfl)) (fun _ _ _ h => h) (Or.inl ⟨by rfl, ?_⟩) ?_ ?_
                  rotate_left
                  ·intro w'
                   go_simp
                   with_reducible rfl
                  rotate_left
                  ·simp only [Act.put, List.setIfInBounds_toArray, List.set_cons_zero, List.set_cons_succ, i64_w, i32_w]
                   rfl
                  refine pure_ (i := 2) (N := some 37) (v := ?_) (a' := ?_) #[true, true, true, false, false, false, false, false, false, false, false] rfl rfl (any_of HT_.out (by kernel_rfl)) (fun _ _ _ h => h) (Or.inl ⟨by rfl, ?_⟩) ?_ ?_
                  rotate_left
                  ·intro w'
                   go_simp
                   with_reducible rfl
                  rotate_left
                  ·simp only [Act.put, List.setIfInBounds_toArray, List.set_cons_zero, List.set_cons_succ, i64_w, i32_w]
                   rfl
                  refine pure_ (i := 4) (N := some 39) (v := ?_) (a' := ?_) #[true, true, true, false, true, false, false, false, false, false, false] rfl rfl (any_of HT_.out (by kernel_rfl)) (fun _ _ _ h => h) (Or.inl ⟨by rfl, ?_⟩) ?_ ?_
                  rotate_left
                  ·intro w'
                   go_simp
                   with_reducible rfl
                  rotate_left
                  ·simp only [Act.put, List.setIfInBounds_toArray, List.set_cons_zero, List.set_cons_succ, i64_w, i32_w]
                   rfl
                  refine pure_ (i := 5) (N := some 40) (v := ?_) (a' := ?_) #[true, true, true, false, true, true, false, false, false, false, false] rfl rfl (any_of HT_.out (by kernel_rfl)) (fun _ _ _ h => h) (Or.inl ⟨by rfl, ?_⟩) ?_ ?_
                  rotate_left
                  ·intro w'
                   go_simp
                   with_reducible rfl
                  rotate_left
                  ·simp only [Act.put, List.setIfInBounds_toArray, List.set_cons_zero, List.set_cons_succ, i64_w, i32_w]
                   rfl
                  refine pure_ (i := 6) (N := some 41) (v := ?_) (a' := ?_) #[true, true, true, false, true, true, true, false, false, false, false] rfl rfl (any_of HT_.out (by kernel_rfl)) (fun _ _ _ h => h) (Or.inl ⟨by rfl, ?_⟩) ?_ ?_
                  rotate_left
                  ·intro w'
                   go_simp
                   with_reducible rfl
                  rotate_left
                  ·simp only [Act.put, List.setIfInBounds_toArray, List.set_cons_zero, List.set_cons_succ, i64_w, i32_w]
                   rfl
                  refine take_ (i := 3) (N := some 38) (v := ?_) (a' := ?_) #[true, true, true, true, true, true, true, false, false, false, false] rfl rfl (take_ofW HT_.out HW_.out (by kernel_rfl)) (fun _ _ _ h => h) (Or.inl ⟨by rfl, ?_⟩) hHeld ?_ ?_
                  rotate_left
                  ·rintro w' ⟨s0, s1⟩
                   go_simp
                   with_reducible rfl
                  rotate_left
                  ·simp only [Act.put, List.setIfInBounds_toArray, List.set_cons_zero, List.set_cons_succ, i64_w, i32_w]
                   rfl
                  refine take_ (i := 7) (N := some 42) (v := ?_) (a' := ?_) #[true, true, true, true, true, true, true, true, false, false, false] rfl rfl (take_ofW HT_.out HW_.out (by kernel_rfl)) (fun _ _ _ h => h) (Or.inl ⟨by rfl, ?_⟩) hHeld ?_ ?_
                  rotate_left
                  ·rintro w' ⟨s0, s1⟩
                   go_simp
                   with_reducible rfl
                  rotate_left
                  ·simp only [Act.put, List.setIfInBounds_toArray, List.set_cons_zero, List.set_cons_succ, i64_w, i32_w]
                   rfl
                  refine pure_ (i := 8) (N := some 43) (v := ?_) (a' := ?_) #[true, true, true, true, true, true, true, true, true, false, false] rfl rfl (any_of HT_.out (by kernel_rfl)) (fun _ _ _ h => h) (Or.inl ⟨by rfl, ?_⟩) ?_ ?_
                  rotate_left
                  ·intro w'
                   go_simp
                   with_reducible rfl
                  rotate_left
                  ·simp only [Act.put, List.setIfInBounds_toArray, List.set_cons_zero, List.set_cons_succ, i64_w, i32_w]
                   rfl
                  refine pure_ (i := 9) (N := some 44) (v := ?_) (a' := ?_) #[true, true, true, true, true, true, true, true, true, true, false] rfl rfl (any_of HT_.out (by kernel_rfl)) (fun _ _ _ h => h) (Or.inl ⟨by rfl, ?_⟩) ?_ ?_
                  rotate_left
                  ·intro w'
                   go_simp
                   with_reducible rfl
                  rotate_left
                  ·simp only [Act.put, List.setIfInBounds_toArray, List.set_cons_zero, List.set_cons_succ, i64_w, i32_w]
                   rfl
                  refine last_ (i := 10) (N := none) #[true, true, true, true, true, true, true, true, true, true, true] rfl rfl (one_of HT_.out (by kernel_rfl)) (by decide) (fun K hK => ?_)
                  refine skip_ (w1 := ?_) (by rfl) rfl ?_ ?_
                  rotate_left
                  ·go_simp
                   rfl
                  refine hK.out _ _ ?_
                  clear hK K
                  refine done_ (done_of HT_.out (by kernel_rfl)) ?_
                  try go_wp2
                  (try simp only [← hl7_3])
                  go_roundg k3
                  case measure => have := HK1.out; have := HJ12.out; have := HK3.out; omega
                  case rel => exact ⟨(y273), (wrap64 (x31_3 + 1)), y14_, H', ⟨by have := HK1.out; have := HJ12.out; have := HK3.out; omega⟩, ⟨by (try simp only [hl7_1]); (try simp only [hl7_12]); (try simp only [hl7_3]); (with_reducible repeat (first | apply Kd.R_alloc | apply Kd.R_drewN | apply Kd.R_drew)); exact HQ32.out⟩, ⟨by (try simp only [hl7_1]); (try simp only [hl7_12]); (try simp only [hl7_3]); (with_reducible repeat (first | apply Kd.R_alloc | apply Kd.R_drewN | apply Kd.R_drew)); exact Kd.R_mono (Kd.R_far (p := ⟨go7, ((rd t267 x31_3) : Int).toNat, none⟩) (Kd.R_mono HO_29.out (fun k_ hk => (⟨hk, fun e_ => hk (by rw [e_]; rfl)⟩ : _ ∧ k_ ≠ go7))) (fun _ hk => hk.2) (.int .i64 (wrap64 ((rd x7_3 (rd t267 x31_3)) + (rd x7_3 x18_1))))) (fun _ hk => hk.1)⟩, ⟨bq_⟩⟩
                 ·rw [if_neg c29] at H
                  exact absurd H (by simp)
                ·rw [if_neg c28] at H
                 exact absurd H (by simp)
               ·rw [if_neg c27] at H
                exact absurd H (by simp)
              ·rw [if_neg c26] at H
               exact absurd H (by simp)
             ·rw [if_neg c25] at H
              exact absurd H (by simp)
            ·rw [if_neg c24] at H
             exact absurd H (by simp)
           ·rw [if_neg c23] at H
            have c23b0 : decide (x31_3 < (t267.length : Int)) = false := decide_eq_false c23
            (try (have c23hhl7_1 := c23b0; simp only [hl7_1] at c23hhl7_1))
            (try (have c23hhl7_12 := c23b0; simp only [hl7_12] at c23hhl7_12))
            (try (have c23hhl7_3 := c23b0; simp only [hl7_3] at c23hhl7_3))
            clear c23
            have H' := am_ H
            clear H
            go_wp2
            (try simp only [← hl7_1, ← hl7_12, ← hl7_3])
            go_roundg k3
            case measure => have := HK1.out; have := HJ12.out; have := HK3.out; omega
            case rel => exact ⟨(x7_3), (wrap64 (x18_1 + 1)), y14_, H', ⟨by have := HK1.out; have := HJ12.out; have := HK3.out; omega⟩, ⟨by (try simp only [hl7_1]); (try simp only [hl7_12]); (try simp only [hl7_3]); (with_reducible repeat (first | apply Kd.R_alloc | apply Kd.R_drewN | apply Kd.R_drew)); exact Kd.R_mono HO_7.out (fun _ hk => trivial)⟩, ⟨bq_⟩⟩
      ·rw [if_neg c12] at H
       have c12b0 : decide (x18_1 < (l0.length : Int)) = false := decide_eq_false c12
       (try (have c12hhl7_1 := c12b0; simp only [hl7_1] at c12hhl7_1))
       clear c12
       by_cases c33 : 0 ≤ a1
       ·rw [if_pos c33] at H
        have c33b0 : decide (0 ≤ a1) = true := decide_eq_true c33
        clear c33
        by_cases c34 : a1 < (x7_1.length : Int)
        ·rw [if_pos c34] at H
         have c34b0 : decide (a1 < (x7_1.length : Int)) = true := decide_eq_true c34
         (try (have c34hhl7_1 := c34b0; simp only [hl7_1] at c34hhl7_1))
         clear c34
         obtain rfl := Option.some.inj H
         have p265 : 0 ≤ (a1 : Int) := od_
         have q265 : a1 < (x7_1.length : Int) := od_
         obtain ⟨ad265, e265, hx265_0⟩ := Kd.at_int (Kd.R_reads' HO_7.out).2.2 a1 p265 q265
         obtain rfl : (⟨go7, 0, none⟩ : Addr) = ad265 := (by injection e265)
         (first | simp only [add_plain] at hx265_0 | simp only [add_at] at hx265_0 | simp only [Addr.add, Nat.zero_add] at hx265_0 | skip)
         replace p265 := eq_true p265
         replace q265 := eq_true q265
         go_wp2
         go_ret
         exact ⟨by first | rfl | (simp [errW_none, errW_some] <;> rfl) | (simp [*, errW_none, errW_some] <;> rfl), bq_⟩
        ·rw [if_neg c34] at H
         exact absurd H (by simp)
       ·rw [if_neg c33] at H
        exact absurd H (by simp)
   ·rw [if_neg c6] at H
    exact absurd H (by simp)
  ·rw [if_neg c5] at H
   exact absurd H (by simp)
 ·rw [if_neg c4] at H
  exact absurd H (by simp)
def impl_mustPass.pr (k : Nat) (q : List S51) (at_ i : Int) : Option Bool := if i = at_ then some true else ((impl_wayCount.f k q at_ i).bind fun t => some (t == 0))
set_option maxHeartbeats 4000000 in
set_option maxRecDepth 100000 in
theorem impl_mustPass.pr_calls (k B0 B1 : Nat) (A : Option Addr) (c : Nat) (q : List S51) (at_ x : Int) (v : Bool) (w : World) (hB0 : w.heap[B0]? = some (.cells #[.int .i64 at_] 3 (0, 0))) (hB1 : w.heap[B1]? = some (.cells #[.slice A q.length c] 26 (0, 0))) (hr : Kd.C k51 w A q.length q) (hl : q.length ≤ c) (h : impl_mustPass.pr k q at_ x = some v) :
  Calls Try.prog 75 #[.int .i64 x, .pointer (some ⟨B0, 0, none⟩), .pointer (some ⟨B1, 0, none⟩)] w fun e w' => e = .returned (.bool v) ∧ Below w.heap.size w w' := by
 have HB := am_ (Below.refl w.heap.size w)
 have HR := am_ hr
 have HC := am_ hl
 clear hr hl
 unfold impl_mustPass.pr at h
 have hc0 : w.cell? ⟨B0, 0, none⟩ = some (.int .i64 at_) := (blk_cell hB0 0).trans rfl
 have hc1 : w.cell? ⟨B1, 0, none⟩ = some (.slice A q.length c) := (blk_cell hB1 0).trans rfl
 clear hB0 hB1
 by_cases c5 : x = at_
 ·rw [if_pos c5] at h
  obtain rfl := Option.some.inj h
  have c5b0 : decide (x = at_) = true := decide_eq_true c5
  have c5b1 : (x == at_) = true := by rw [c5]; simp
  clear h c5
  go_enter Try.func75, Try.ntmps75
  go_wp2
  go_ret
  exact ⟨by first | rfl | (simp; done) | (simp [*]; done), bq_⟩
 ·rw [if_neg c5] at h
  obtain ⟨t, A70, h⟩ := Option.bind_eq_some_iff.mp h
  have A7 := am_ A70
  obtain rfl := Option.some.inj h
  have c5b0 : decide (x = at_) = false := decide_eq_false c5
  have c5b1 : (x == at_) = false := by simp [c5]
  clear h c5 A70
  go_enter Try.func75, Try.ntmps75
  go_wp2_with (go_at_call 45; refine (impl_wayCount.calls k _ _ q at_ x t _ (HR.out) HC.out A7.out).mono ?_; rintro e w6 ⟨rfl, hb⟩; replace HB := am_ hb; clear hb)
  go_ret
  exact ⟨by first | rfl | (simp; done) | (simp [*]; done), bq_⟩
def impl_mustPass.lst : Nat → (Int → Option Bool) → Int → List Int → Int → Option (List Int)
 | 0, _, _, _, _ => none
 | k + 1, p, many, out, i => if i < many then ((p i).bind fun t => (if t = true then (if out.length < 17592186044416 then impl_mustPass.lst k p many (out ++ [i]) (wrap64 (i + 1)) else none) else impl_mustPass.lst k p many out (wrap64 (i + 1)))) else some out
set_option maxHeartbeats 8000000 in
set_option maxRecDepth 100000 in
theorem impl_mustPass.lst_calls (k : Nat) (B0 B1 : Nat) (p : Int → Option Bool) (many : Int) (r : List Int) (w : World)
  (hp : ∀ (W : World) (x : Int) (v : Bool), Below w.heap.size w W → p x = some v → Calls Try.prog 75 #[.int .i64 x, .pointer (some ⟨B0, 0, none⟩), .pointer (some ⟨B1, 0, none⟩)] W fun e w' => e = .returned (.bool v) ∧ Below W.heap.size W w')
  (h : impl_mustPass.lst k p many [] 0 = some r) :
  Calls Try.prog 51 #[.int .i64 many, .func (.func 75) #[] #[.pointer (some ⟨B0, 0, none⟩), .pointer (some ⟨B1, 0, none⟩)]] w fun e w' => ∃ v0_ : Value, e = .returned v0_ ∧ Kd.R (Kd.int .i64) 3 w' w.heap.size (fun _ => True) v0_ r ∧ Below w.heap.size w w' := by
 have H' := am_ h
 clear h
 have HB := am_ (Below.refl w.heap.size w)
 have HP := am_ hp
 clear hp
 have eg := fun args w => enters_ (P := Try.prog) Try.func75 (by kernel_rfl) rfl args w
 go_enter Try.func51, Try.ntmps51
 go_wp2
 go_loopg [5, 8] k (fun kq v5 v8 w' => ∃ (o : List Int) (x : Int), v8 = .int .i64 x ∧ Aside0 (impl_mustPass.lst kq p many o x = some r) ∧ Aside0 (kq ≤ k) ∧ Aside0 (Kd.R (Kd.int .i64) 3 w' w.heap.size (fun _ => True) v5 o) ∧ Aside0 (Below w.heap.size w w'))
 case atStart => exact ⟨[], (0), y14_, H', ⟨Nat.le_refl _⟩, ⟨Kd.R_nil _ _ _ _ _⟩, ⟨bq_⟩⟩
 case round =>
  clear H' HB
  obtain ⟨o, x, rfl, HA, HK1, HO, HB⟩ := hrel
  cases gk with
  | zero => exact absurd HA.out (by simp [impl_mustPass.lst])
  | succ k1 =>
   have H := HA.out
   clear HA
   simp only [impl_mustPass.lst] at H
   by_cases c4 : x < many
   ·rw [if_pos c4] at H
    have c4b0 : decide (x < many) = true := decide_eq_true c4
    clear c4
    obtain ⟨t, A70, H⟩ := Option.bind_eq_some_iff.mp H
    have A7 := am_ A70
    clear A70
    by_cases c8 : t = true
    ·subst c8
     rw [if_pos rfl] at H
     by_cases c12 : o.length < 17592186044416
     ·rw [if_pos c12] at H
      have LMc12 := am_ c12
      clear c12
      have H' := am_ H
      clear H
      go_wp2_with (first | (go_at_call 75; refine (HP.out _ x true (bq_) A7.out).mono ?_; rintro e w6 ⟨rfl, hb⟩; replace HB := bs_ hb; replace HO := am_ (Kd.R_below (rq_ HO.out) hb); clear hb) | ((with_reducible refine gate_builtin (b := .append) (xs := #[.tmp 14, .tmp 16]) rfl ?_); at_builtin; refine Kd.R_append (Kd.int .i64) (w0 := w) w.heap.size rfl (.tmp 14) (.tmp 16) 30 3 (.int .i64 0) 8 rfl Try.underlying30 info3 rfl (by decide) (by omega) u5 o x [.int .i64 x] (fun _ => True) (fun _ => False) rfl rfl ?aP (fun _ hk => hk.elim) ?aF ?aO ?aB ?aS ?aL ?_; (case aP => exact rfl); (case aB => exact (bq_)); (case aF => exact (fun _ _ => trivial)); (case aO => exact (rq_ HO.out)); (case aS => exact (below_size (bq_))); (case aL => have := LMc12.out; omega); intro v121 w13 ho hb hg hat; replace HB := am_ hb; replace HO := am_ ho; clear ho hb hg hat))
      go_roundg k1
      case measure => have := HK1.out; omega
      case rel => exact ⟨_, (wrap64 (x + 1)), y14_, H', ⟨by have := HK1.out; omega⟩, ⟨rq_ HO.out⟩, ⟨bq_⟩⟩
     ·rw [if_neg c12] at H
      exact absurd H (by simp)
    ·replace c8 := Bool.eq_false_iff.mpr c8
     subst c8
     rw [if_neg (by simp)] at H
     have H' := am_ H
     clear H
     go_wp2_with (go_at_call 75; refine (HP.out _ x false (bq_) A7.out).mono ?_; rintro e w6 ⟨rfl, hb⟩; replace HB := bs_ hb; replace HO := am_ (Kd.R_below (rq_ HO.out) hb); clear hb)
     go_roundg k1
     case measure => have := HK1.out; omega
     case rel => exact ⟨_, (wrap64 (x + 1)), y14_, H', ⟨by have := HK1.out; omega⟩, ⟨rq_ HO.out⟩, ⟨bq_⟩⟩
   ·rw [if_neg c4] at H
    have c4b0 : decide (x < many) = false := decide_eq_false c4
    clear c4
    obtain rfl := Option.some.inj H
    clear H
    go_wp2
    go_ret
    exact ⟨_, by first | rfl | (simp; done) | (simp [*]; done), rq_ HO.out, bq_⟩
def impl_mustPass.f (k : Nat) (l0 : List (S51)) (a1 : Int) : Option (List Int) := impl_mustPass.lst k (impl_mustPass.pr k l0 a1) (l0.length : Int) [] 0
set_option maxHeartbeats 8000000 in
set_option maxRecDepth 100000 in
theorem impl_mustPass.calls (k : Nat) (A0 : Option Addr) (c0 : Nat) (l0 : List (S51)) (a1 : Int) (r : List Int) (w : World) (hr0 : Kd.C k51 w A0 l0.length l0) (hc0 : l0.length ≤ c0) (h : impl_mustPass.f k l0 a1 = some r) :
  Calls Try.prog 63 #[.slice A0 l0.length c0, .int .i64 a1] w fun e w' => ∃ v0_ : Value, e = .returned v0_ ∧ Kd.R (Kd.int .i64) 3 w' w.heap.size (fun _ => True) v0_ r ∧ Below w.heap.size w w' := by
 have HR0 := am_ hr0
 have HC0 := am_ hc0
 have A9 := am_ (show impl_mustPass.lst k (impl_mustPass.pr k l0 a1) (l0.length : Int) [] 0 = some r from h)
 clear hr0 hc0 h
 have HB := am_ (Below.refl w.heap.size w)
 go_enter Try.func63, Try.ntmps63
 go_wp2_with (first | ((with_reducible refine gate_dst (N := 2) rfl ?_); refine boxq_ (N := 2) (cs := #[.slice A0 l0.length c0]) (t := 26) ?_; intro g2 hg w2 hbox hb; have GEg2 := am_ (y16_ : w.heap.size ≤ g2); have n0_ := bs_ hb; clear HB; have HB := n0_; have BK2 := am_ hbox; clear n0_ hb hbox hg) | ((with_reducible refine gate_dst (N := 3) rfl ?_); refine boxq_ (N := 3) (cs := #[.int .i64 a1]) (t := 3) ?_; intro g3 hg w3 hbox hb; have GEg3 := am_ (y16_ : w.heap.size ≤ g3); have NEg2g3 := am_ (y13_ : g2 ≠ g3); have mBK2_ := bb_ BK2 hb; have n0_ := bs_ hb; clear HB BK2; have HB := n0_; have BK2 := mBK2_; clear mBK2_; have BK3 := am_ hbox; clear n0_ hb hbox hg; have hcz0 := cq_ BK2.out 0 (.slice A0 l0.length c0)) | (go_at_call 51; refine (impl_mustPass.lst_calls k g3 g2 (impl_mustPass.pr k l0 a1) (l0.length : Int) r _ (fun W x v hbW hv => impl_mustPass.pr_calls k g3 g2 A0 c0 l0 a1 x v W (blk_below BK3.out hbW) (blk_below BK2.out hbW) (Kd.C_below (Kd.C_below HR0.out (bq_)) hbW) HC0.out hv) A9.out).mono ?_; rintro e w7 ⟨v1, rfl, ho2, hb⟩; have HO2 := am_ (Kd.R_lower ho2 (below_size (bq_))); replace HB := bs_ hb; clear ho2 hb))
 go_ret
 exact ⟨_, by first | rfl | (simp; done) | (simp [*]; done), rq_ HO2.out, bq_⟩
def impl_MustPass.f (k : Nat) (l0 : List (S51)) (a1 : Int) : Option (List Int × Bool) := (impl_isStep.f k l0 a1).bind fun t274 => (if t274 = true then ((impl_reachable.f k l0 0).bind fun t275 => (if 0 ≤ a1 then (if a1 < (t275.length : Int) then (if rdOf false t275 a1 = true then ((impl_mustPass.f k l0 a1).bind fun t279 => (some (t279, true))) else (some (([] : List Int), false))) else (none)) else (none))) else (some (([] : List Int), false)))
set_option maxHeartbeats 8000000 in
set_option maxRecDepth 100000 in
theorem impl_MustPass.calls (k : Nat) (A0 : Option Addr) (c0 : Nat) (l0 : List (S51)) (a1 : Int) (r1 : List Int) (r2 : Bool) (w : World) (hr0 : Kd.C k51 w A0 l0.length l0) (hc0 : l0.length ≤ c0) (h : impl_MustPass.f k l0 a1 = some (r1, r2)) :
  Calls Try.prog 30 #[.slice A0 l0.length c0, .int .i64 a1] w fun e w' => ∃ v0_ : Value, e = .returned (.tuple #[v0_, .bool r2]) ∧ Kd.R (Kd.int .i64) 3 w' w.heap.size (fun _ => True) v0_ r1 ∧ Below w.heap.size w w' := by
 have HR0 := am_ hr0
 have HC0 := am_ hc0
 clear hr0 hc0
 have HB := am_ (Below.refl w.heap.size w)
 have H : ((impl_isStep.f k l0 a1).bind fun t274 => (if t274 = true then ((impl_reachable.f k l0 0).bind fun t275 => (if 0 ≤ a1 then (if a1 < (t275.length : Int) then (if rdOf false t275 a1 = true then ((impl_mustPass.f k l0 a1).bind fun t279 => (some (t279, true))) else (some (([] : List Int), false))) else (none)) else (none))) else (some (([] : List Int), false)))) = some (r1, r2) := h
 clear h
 replace H := Option.bind_eq_some_iff.mp H
 obtain ⟨t274, A30, H⟩ := H
 replace H : (if t274 = true then ((impl_reachable.f k l0 0).bind fun t275 => (if 0 ≤ a1 then (if a1 < (t275.length : Int) then (if rdOf false t275 a1 = true then ((impl_mustPass.f k l0 a1).bind fun t279 => (some (t279, true))) else (some (([] : List Int), false))) else (none)) else (none))) else (some (([] : List Int), false))) = some (r1, r2) := H
 have A3 := am_ A30
 clear A30
 by_cases c4 : t274 = true
 ·subst c4
  have H1 : ((impl_reachable.f k l0 0).bind fun t275 => (if 0 ≤ a1 then (if a1 < (t275.length : Int) then (if rdOf false t275 a1 = true then ((impl_mustPass.f k l0 a1).bind fun t279 => (some (t279, true))) else (some (([] : List Int), false))) else (none)) else (none))) = some (r1, r2) := by rw [if_pos rfl] at H; exact H
  clear H
  have H := H1
  clear H1
  replace H := Option.bind_eq_some_iff.mp H
  obtain ⟨t275, A50, H⟩ := H
  replace H : (if 0 ≤ a1 then (if a1 < (t275.length : Int) then (if rdOf false t275 a1 = true then ((impl_mustPass.f k l0 a1).bind fun t279 => (some (t279, true))) else (some (([] : List Int), false))) else (none)) else (none)) = some (r1, r2) := H
  have A5 := am_ A50
  clear A50
  by_cases c6 : 0 ≤ a1
  ·rw [if_pos c6] at H
   have c6b0 : decide (0 ≤ a1) = true := decide_eq_true c6
   clear c6
   by_cases c7 : a1 < (t275.length : Int)
   ·rw [if_pos c7] at H
    have c7b0 : decide (a1 < (t275.length : Int)) = true := decide_eq_true c7
    clear c7
    obtain ⟨bq8, hbq8⟩ : ∃ b_ : Bool, b_ = (rdOf false t275 a1) := ⟨_, rfl⟩
    replace H : (if bq8 = true then ((impl_mustPass.f k l0 a1).bind fun t279 => (some (t279, true))) else (some (([] : List Int), false))) = some (r1, r2) := by rw [← hbq8] at H; exact H
    have Nbq8 := am_ hbq8
    clear hbq8
    by_cases c9 : bq8 = true
    ·subst c9
     have H1 : ((impl_mustPass.f k l0 a1).bind fun t279 => (some (t279, true))) = some (r1, r2) := by rw [if_pos rfl] at H; exact H
     clear H
     have H := H1
     clear H1
     replace H := Option.bind_eq_some_iff.mp H
     obtain ⟨t279, A100, H⟩ := H
     replace H : (some (t279, true)) = some (r1, r2) := H
     have A10 := am_ A100
     clear A100
     simp only [Option.some.injEq, Prod.mk.injEq] at H
     obtain ⟨rfl, rfl⟩ := H
     go_enter Try.func30, Try.ntmps30
     go_wp2_with (first | ((with_reducible refine gl_ 44 rfl ?_); refine goesM_ (some 8) Try.func44 #[.slice A0 l0.length c0, .int .i64 a1] ?_; (with_reducible refine (impl_isStep.calls k _ _ l0 a1 true _ ?side1 ?side2 A3.out).mono ?_); (case side1 => exact cm_ HR0.out); (case side2 => exact HC0.out); rintro e w11 ⟨rfl, hb⟩; refine ⟨_, rfl, ?_⟩; replace HB := bs_ hb; (try clear hb)) | (go_at_call 50; (with_reducible refine (impl_reachable.calls k _ _ l0 0 t275 _ ?side1 ?side2 A5.out).mono ?_); (case side1 => exact cm_ (Kd.C_below HR0.out HB.out)); (case side2 => exact HC0.out); rintro e w12 ⟨v276, rfl, ho0, hb⟩; have HO277 := am_ (Kd.R_lower ho0 (below_size (bq_))); replace HB := bs_ hb; (try clear hb); (try clear ho0); obtain ⟨Ao13, co13, eo13⟩ := Kd.R_slice HO277.out; subst eo13; have p278 : 0 ≤ (a1 : Int) := od_; have q278 : a1 < (t275.length : Int) := od_; obtain ⟨ad278, e278, hx278_0⟩ := Kd.at_bool (Kd.R_reads' HO277.out).2.2 a1 p278 q278; (try rw [← Nbq8.out] at hx278_0); cases e278; replace p278 := eq_true p278; replace q278 := eq_true q278) | ((with_reducible refine gl_ 63 rfl ?_); refine goesM_ (some 20) Try.func63 #[.slice A0 l0.length c0, .int .i64 a1] ?_; (with_reducible refine (impl_mustPass.calls k _ _ l0 a1 t279 _ ?side1 ?side2 A10.out).mono ?_); (case side1 => exact cm_ (Kd.C_below HR0.out HB.out)); (case side2 => exact HC0.out); rintro e w14 ⟨v280, rfl, ho0, hb⟩; refine ⟨_, rfl, ?_⟩; replace HO277 := am_ (Kd.R_below (rq_ HO277.out) hb); have HO281 := am_ (Kd.R_lower ho0 (below_size (bq_))); replace HB := bs_ hb; (try clear hb); (try clear ho0)))
     go_ret2
     exact ⟨_, by first | rfl | (simp [errW_none, errW_some] <;> rfl) | (simp [*, errW_none, errW_some] <;> rfl), rq_ HO281.out, bq_⟩
    ·replace c9 := Bool.eq_false_iff.mpr c9
     subst c9
     have H1 : (some (([] : List Int), false)) = some (r1, r2) := by rw [if_neg (show ¬ (false = true) by decide)] at H; exact H
     clear H
     have H := H1
     clear H1
     simp only [Option.some.injEq, Prod.mk.injEq] at H
     obtain ⟨rfl, rfl⟩ := H
     go_enter Try.func30, Try.ntmps30
     go_wp2_with (first | ((with_reducible refine gl_ 44 rfl ?_); refine goesM_ (some 8) Try.func44 #[.slice A0 l0.length c0, .int .i64 a1] ?_; (with_reducible refine (impl_isStep.calls k _ _ l0 a1 true _ ?side1 ?side2 A3.out).mono ?_); (case side1 => exact cm_ HR0.out); (case side2 => exact HC0.out); rintro e w15 ⟨rfl, hb⟩; refine ⟨_, rfl, ?_⟩; replace HB := bs_ hb; (try clear hb)) | (go_at_call 50; (with_reducible refine (impl_reachable.calls k _ _ l0 0 t275 _ ?side1 ?side2 A5.out).mono ?_); (case side1 => exact cm_ (Kd.C_below HR0.out HB.out)); (case side2 => exact HC0.out); rintro e w16 ⟨v276, rfl, ho0, hb⟩; have HO277 := am_ (Kd.R_lower ho0 (below_size (bq_))); replace HB := bs_ hb; (try clear hb); (try clear ho0); obtain ⟨Ao17, co17, eo17⟩ := Kd.R_slice HO277.out; subst eo17; have p278 : 0 ≤ (a1 : Int) := od_; have q278 : a1 < (t275.length : Int) := od_; obtain ⟨ad278, e278, hx278_0⟩ := Kd.at_bool (Kd.R_reads' HO277.out).2.2 a1 p278 q278; (try rw [← Nbq8.out] at hx278_0); cases e278; replace p278 := eq_true p278; replace q278 := eq_true q278))
     go_ret2
     exact ⟨_, by first | rfl | (simp [errW_none, errW_some] <;> rfl) | (simp [*, errW_none, errW_some] <;> rfl), by first | exact Kd.R_nil _ _ _ _ _ | exact Kd.N_nil _ _ _ _ _ | exact Kd.V_nil _ _ _ _ _ | exact Kd.Q_nil _ _ _ _ _ | exact Kd.S_nil _ _ _ _ _, bq_⟩
   ·rw [if_neg c7] at H
    exact absurd H (by simp)
  ·rw [if_neg c6] at H
   exact absurd H (by simp)
 ·replace c4 := Bool.eq_false_iff.mpr c4
  subst c4
  have H1 : (some (([] : List Int), false)) = some (r1, r2) := by rw [if_neg (show ¬ (false = true) by decide)] at H; exact H
  clear H
  have H := H1
  clear H1
  simp only [Option.some.injEq, Prod.mk.injEq] at H
  obtain ⟨rfl, rfl⟩ := H
  go_enter Try.func30, Try.ntmps30
  go_wp2_with (first | ((with_reducible refine gl_ 44 rfl ?_); refine goesM_ (some 8) Try.func44 #[.slice A0 l0.length c0, .int .i64 a1] ?_; (with_reducible refine (impl_isStep.calls k _ _ l0 a1 false _ ?side1 ?side2 A3.out).mono ?_); (case side1 => exact cm_ HR0.out); (case side2 => exact HC0.out); rintro e w18 ⟨rfl, hb⟩; refine ⟨_, rfl, ?_⟩; replace HB := bs_ hb; (try clear hb)))
  go_ret2
  exact ⟨_, by first | rfl | (simp [errW_none, errW_some] <;> rfl) | (simp [*, errW_none, errW_some] <;> rfl), by first | exact Kd.R_nil _ _ _ _ _ | exact Kd.N_nil _ _ _ _ _ | exact Kd.V_nil _ _ _ _ _ | exact Kd.Q_nil _ _ _ _ _ | exact Kd.S_nil _ _ _ _ _, bq_⟩
end Go.Proofs.Ytcmhkgpalfljbaa.PPA
