import Derived.Test.YtcmhkgpalfljbaaPPAx0
import Derived.Test.YtcmhkgpalfljbaaPPAx4
import Derived.Test.YtcmhkgpalfljbaaPPAx5
namespace Go.Proofs.Ytcmhkgpalfljbaa.PPA
open Go.RowKit Go.Proofs.YtcmhkgpalfljbaaW.PrintWords Go.Proofs.YtcmhkgpalfljbaaW.PrintLast Go.Proofs.YtcmhkgpalfljbaaW.PrintMore
attribute [local go_sem] max2_int min2_int max_two min_two max_three min_three max_four min_four   -- for this text's walks alone
set_option linter.unusedVariables false
set_option linter.unusedSimpArgs false
mutual
def impl_reachable.l0 : Nat → List (S51) → List Bool → Int → Int → Option (List Bool)
 | 0, _, _, _, _ => none
 | k + 1, x0, x5, x16, x17 => if x17 < x16 then (if 0 ≤ x17 then (if x17 < (x5.length : Int) then (if rdOf false x5 x17 = true then ((impl_nexts.f x0 x17).bind fun t225 => (impl_reachable.l1 k x0 x5 x16 x17 t225 (t225.length : Int) 0)) else (impl_reachable.l0 k x0 x5 x16 (wrap64 (x17 + 1)))) else (none)) else (none)) else (some x5)
def impl_reachable.l1 : Nat → List (S51) → List Bool → Int → Int → List Int → Int → Int → Option (List Bool)
 | 0, _, _, _, _, _, _, _ => none
 | k + 1, x0, x5, x16, x17, x26, x27, x28 => if x28 < x27 then (if 0 ≤ x28 then (if x28 < (x26.length : Int) then (if 0 ≤ (rd x26 x28) then (if (rd x26 x28) < (x5.length : Int) then (impl_reachable.l1 k x0 (x5.set ((rd x26 x28) : Int).toNat true) x16 x17 x26 x27 (wrap64 (x28 + 1))) else (none)) else (none)) else (none)) else (none)) else (impl_reachable.l0 k x0 x5 x16 (wrap64 (x17 + 1)))
end
def impl_reachable.f (k : Nat) (l0 : List (S51)) (a1 : Int) : Option (List Bool) := if 0 ≤ (l0.length : Int) then (if ((l0.length : Int) : Int).toNat ≤ 281474976710656 then ((some (List.replicate ((l0.length : Int) : Int).toNat false : List Bool)).bind fun y220 => (if 0 ≤ a1 then (if a1 < (y220.length : Int) then (impl_reachable.l0 k l0 (y220.set (a1 : Int).toNat true) (l0.length : Int) 0) else (none)) else (none))) else (none)) else (none)
set_option maxHeartbeats 8000000 in
set_option maxRecDepth 100000 in
theorem impl_reachable.calls (k : Nat) (A0 : Option Addr) (c0 : Nat) (l0 : List (S51)) (a1 : Int) (r : List Bool) (w : World) (hr0 : Kd.C k51 w A0 l0.length l0) (hc0 : l0.length ≤ c0) (h : impl_reachable.f k l0 a1 = some r) :
  Calls Try.prog 50 #[.slice A0 l0.length c0, .int .i64 a1] w fun e w' => ∃ v0_ : Value, e = .returned (v0_) ∧ Kd.R Kd.bool 4 w' w.heap.size (fun _ => True) v0_ r ∧ Below w.heap.size w w' := by
 have HR0 := am_ hr0
 have HC0 := am_ hc0
 clear hr0 hc0
 have HB := am_ (Below.refl w.heap.size w)
 have H : (if 0 ≤ (l0.length : Int) then (if ((l0.length : Int) : Int).toNat ≤ 281474976710656 then ((some (List.replicate ((l0.length : Int) : Int).toNat false : List Bool)).bind fun y220 => (if 0 ≤ a1 then (if a1 < (y220.length : Int) then (impl_reachable.l0 k l0 (y220.set (a1 : Int).toNat true) (l0.length : Int) 0) else (none)) else (none))) else (none)) else (none)) = some r := h
 clear h
 by_cases c3 : 0 ≤ (l0.length : Int)
 ·rw [if_pos c3] at H
  have c3b0 := eq_true c3
  have c3b1 : decide (0 ≤ (l0.length : Int)) = true := decide_eq_true c3
  clear c3
  by_cases c4 : ((l0.length : Int) : Int).toNat ≤ 281474976710656
  ·rw [if_pos c4] at H
   have c4b0 := eq_true c4
   have c4b1 : decide (((l0.length : Int) : Int).toNat ≤ 281474976710656) = true := decide_eq_true c4
   clear c4
   obtain ⟨y220, hy220⟩ : ∃ y_ : List Bool, y_ = (List.replicate ((l0.length : Int) : Int).toNat false) := ⟨_, rfl⟩
   replace H : (if 0 ≤ a1 then (if a1 < (y220.length : Int) then (impl_reachable.l0 k l0 (y220.set (a1 : Int).toNat true) (l0.length : Int) 0) else (none)) else (none)) = some r := by first | (rw [hy220]; with_reducible exact H) | (have H2_ := (Option.bind_some _ _).symm.trans H; rw [hy220]; with_reducible exact H2_) | (have H2_ := (Option.bind_some _ _).symm.trans H; with_reducible exact H2_) | with_reducible exact H | (rw [hy220]; exact H) | exact H
   have Ny220 := am_ hy220
   clear hy220
   by_cases c5 : 0 ≤ a1
   ·rw [if_pos c5] at H
    have c5b0 : decide (0 ≤ a1) = true := decide_eq_true c5
    clear c5
    by_cases c6 : a1 < (y220.length : Int)
    ·rw [if_pos c6] at H
     have c6b0 : decide (a1 < (y220.length : Int)) = true := decide_eq_true c6
     clear c6
     obtain ⟨y223, hy223⟩ : ∃ y_ : List Bool, y_ = (y220.set (a1 : Int).toNat true) := ⟨_, rfl⟩
     replace H : (impl_reachable.l0 k l0 y223 (l0.length : Int) 0) = some r := by first | (rw [hy223]; with_reducible exact H) | (have H2_ := (Option.bind_some _ _).symm.trans H; rw [hy223]; with_reducible exact H2_) | (have H2_ := (Option.bind_some _ _).symm.trans H; with_reducible exact H2_) | with_reducible exact H | (rw [hy223]; exact H) | exact H
     have Ny223 := am_ hy223
     clear hy223
     have H' := am_ H
     clear H
     go_enter Try.func50, Try.ntmps50
     go_wp2_with (first | ((with_reducible refine gate_dst (N := 11) rfl ?_); refine Kd.R_make Kd.bool _ 4 rfl (N := 11) rfl 57 _ _ rfl (l0.length : Int) rfl rfl Try.underlying57 (.bool false) 1 info4 rfl (by decide) (by omega) false (ok := fun _ => True) (okp := fun _ => True) rfl (fun _ hk => hk) trivial (od_) (Nat.le_trans (Nat.mul_le_mul_right _ (od_ : (l0.length : Int).toNat ≤ 281474976710656)) (by omega)) (Below.refl _ _) (Nat.le_refl _) ?_; intro v221 w8 ho9 hb hg_ hnew_; clear hg_ hnew_; (first | rw [← Ny220.out] at ho9 | (simp only [Int.reduceToNat] at ho9; rw [← Ny220.out] at ho9)); have HO222 := am_ (Kd.R_lower ho9 (below_size (bq_))); replace HB := bs_ hb; clear hb ho9; have p7 : 0 ≤ (a1 : Int) := od_; have q7 : (a1 : Int) < ((y220.length : Int) : Int) := od_; obtain ⟨go7, co7, eo7, gb7, gl7, cl7, HG7⟩ := Kd.R_form HO222.out (by omega); (first | cases eo7 | (injection eo7 with ea_ en_ ec_; (first | subst ea_ | (injection ea_ with ea_; subst ea_)); subst ec_; clear en_)); have GB7 := am_ gb7; have GG7 := am_ HG7; clear gb7 gl7 HG7; obtain ⟨hx7_0, hf7_0⟩ := Kd.R_celln false HO222.out (a1 : Int) p7 q7; replace p7 := eq_true p7; replace q7 := eq_true q7; obtain ⟨hy10_, hz10_⟩ := Kd.R_celln false HO222.out (a1 : Int) (od_) (od_); have HP10 := Kd.R_putg HO222.out (a1 : Int) true) | ((with_reducible refine gate_store (t := 4) (p := 14) rfl ?_); refine store_event (t := 4) (p := 14) (v := ?vo_w11) (w1 := (w8.setCell ⟨go7, (a1 : Int).toNat, none⟩ (.bool true))) ?hg ?ho ?hn ?hr ?_; (case ho => rfl); (case hg => rfl); (case hn => rfl); (case hr => first | (go_simp; done) | (go_simp; rfl)); intro w11 hw; have hg : w8.grownBy w11 (some go7) := (by rw [hw]; exact HP10.2); have hp_ : Kd.R Kd.bool 4 w11 w.heap.size (fun _ => True) (.slice (some ⟨go7, 0, none⟩) y220.length co7) y223 := (by rw [hw, Ny223.out]; exact HP10.1); clear HP10; replace HO222 := am_ (hp_); replace HB := am_ ((y15_ : Below w.heap.size w w11)); clear hg hw hp_))
     go_loopg [17] k (fun kq v17 w' => ∃ (x5_1 : List Bool) (x17_1 : Int), v17 = .int .i64 x17_1 ∧ Aside0 (impl_reachable.l0 kq l0 x5_1 (l0.length : Int) x17_1 = some r) ∧ Aside0 (kq ≤ k) ∧ Aside0 (Kd.R Kd.bool 4 w' w.heap.size (fun _ => True) (.slice (some ⟨go7, 0, none⟩) y220.length co7) x5_1) ∧ Aside0 (Below w.heap.size w w'))
     case atStart => exact ⟨(y223), (0), y14_, H', ⟨Nat.le_refl _⟩, ⟨rq_ HO222.out⟩, ⟨bq_⟩⟩
     case round =>
      clear H'
      try clear p2
      try clear c3
      try clear c3b0
      try clear c3b1
      try clear c4
      try clear c4b0
      try clear c4b1
      try clear c5
      try clear c5b0
      try clear c6
      try clear c6b0
      try clear p7
      try clear q7
      try clear hx7
      try clear hf7
      try clear hx7_0
      try clear p7
      try clear q7
      obtain ⟨x5_1, x17_1, rfl, HA, HK1, HO_5, HB⟩ := hrel
      have hl5_1 := (Kd.R_reads' HO_5.out).1
      rw [hl5_1] at HO_5
      (try simp only [hl5_1])
      cases gk with
      | zero => exact absurd HA.out (by simp [impl_reachable.l0])
      | succ k1 =>
       have H := HA.out
       clear HA
       simp only [impl_reachable.l0] at H
       by_cases c12 : x17_1 < (l0.length : Int)
       ·rw [if_pos c12] at H
        have c12b0 : decide (x17_1 < (l0.length : Int)) = true := decide_eq_true c12
        (try (have c12hhl5_1 := c12b0; simp only [hl5_1] at c12hhl5_1))
        clear c12
        by_cases c13 : 0 ≤ x17_1
        ·rw [if_pos c13] at H
         have c13b0 : decide (0 ≤ x17_1) = true := decide_eq_true c13
         clear c13
         by_cases c14 : x17_1 < (x5_1.length : Int)
         ·rw [if_pos c14] at H
          have c14b0 : decide (x17_1 < (x5_1.length : Int)) = true := decide_eq_true c14
          (try (have c14hhl5_1 := c14b0; simp only [hl5_1] at c14hhl5_1))
          clear c14
          obtain ⟨bq15, hbq15⟩ : ∃ b_ : Bool, b_ = (rdOf false x5_1 x17_1) := ⟨_, rfl⟩
          replace H : (if bq15 = true then ((impl_nexts.f l0 x17_1).bind fun t225 => (impl_reachable.l1 k1 l0 x5_1 (l0.length : Int) x17_1 t225 (t225.length : Int) 0)) else (impl_reachable.l0 k1 l0 x5_1 (l0.length : Int) (wrap64 (x17_1 + 1)))) = some r := by rw [← hbq15] at H; exact H
          have Nbq15 := am_ hbq15
          clear hbq15
          by_cases c16 : bq15 = true
          ·subst c16
           have H1 : ((impl_nexts.f l0 x17_1).bind fun t225 => (impl_reachable.l1 k1 l0 x5_1 (l0.length : Int) x17_1 t225 (t225.length : Int) 0)) = some r := by rw [if_pos rfl] at H; exact H
           clear H
           have H := H1
           clear H1
           replace H := Option.bind_eq_some_iff.mp H
           obtain ⟨t225, A170, H⟩ := H
           replace H : (impl_reachable.l1 k1 l0 x5_1 (l0.length : Int) x17_1 t225 (t225.length : Int) 0) = some r := H
           have A17 := am_ A170
           clear A170
           have H' := am_ H
           clear H
           have p224 : 0 ≤ (x17_1 : Int) := od_
           have q224 : x17_1 < (x5_1.length : Int) := od_
           obtain ⟨ad224, e224, hx224_0⟩ := Kd.at_bool (Kd.R_reads' HO_5.out).2.2 x17_1 p224 q224
           (try rw [← Nbq15.out] at hx224_0)
           obtain rfl : (⟨go7, 0, none⟩ : Addr) = ad224 := (by injection e224)
           (first | simp only [add_plain] at hx224_0 | simp only [add_at] at hx224_0 | simp only [Addr.add, Nat.zero_add] at hx224_0 | skip)
           replace p224 := eq_true p224
           replace q224 := eq_true q224
           go_wp2_with (first | ((with_reducible refine gl_ 61 rfl ?_); refine goesM_ (some 26) Try.func61 #[.slice A0 l0.length c0, .int .i64 x17_1] ?_; (with_reducible refine (impl_nexts.calls _ _ l0 x17_1 t225 _ ?side1 ?side2 A17.out).mono ?_); (case side1 => exact cm_ (Kd.C_below HR0.out HB.out)); (case side2 => exact HC0.out); rintro e w18 ⟨v226, rfl, ho0, hb⟩; refine ⟨_, rfl, ?_⟩; replace HO_5 := am_ (Kd.R_below (rq_ HO_5.out) hb); have HO227 := am_ (Kd.R_lower ho0 (below_size (bq_))); replace HB := bs_ hb; (try clear hb); (try clear ho0); obtain ⟨Ao19, co19, eo19⟩ := Kd.R_slice HO227.out; subst eo19))
           go_loopg [28] k1 (fun kq v28 w' => ∃ (x5_2 : List Bool) (x28_2 : Int), v28 = .int .i64 x28_2 ∧ Aside0 (impl_reachable.l1 kq l0 x5_2 (l0.length : Int) x17_1 t225 (t225.length : Int) x28_2 = some r) ∧ Aside0 (kq ≤ k1) ∧ Aside0 (Kd.R Kd.bool 4 w' w.heap.size (fun _ => True) (.slice (some ⟨go7, 0, none⟩) x5_1.length co7) x5_2) ∧ Aside0 (Kd.R (Kd.int .i64) 3 w' w.heap.size (fun _ => True) (.slice Ao19 t225.length co19) t225) ∧ Aside0 (Below w.heap.size w w'))
           case atStart => exact ⟨(x5_1), (0), y14_, H', ⟨Nat.le_refl _⟩, ⟨by (try simp only [hl5_1]); (with_reducible repeat (first | apply Kd.R_alloc | apply Kd.R_drewN | apply Kd.R_drew)); exact HO_5.out⟩, ⟨by (try simp only [hl5_1]); (with_reducible repeat (first | apply Kd.R_alloc | apply Kd.R_drewN | apply Kd.R_drew)); exact HO227.out⟩, ⟨bq_⟩⟩
           case round =>
            clear H'
            try clear c1
            try clear q1
            try clear p2
            try clear q2
            try clear hx2
            try clear c3
            try clear c3b0
            try clear c3b1
            try clear c4
            try clear c4b0
            try clear c4b1
            try clear c5
            try clear c5b0
            try clear c6
            try clear c6b0
            try clear p6
            try clear p7
            try clear q7
            try clear hx7
            try clear hf7
            try clear c12
            try clear c12b0
            try clear c13
            try clear c13b0
            try clear c14
            try clear c14b0
            try clear q15
            try clear c16
            try clear hx224_0
            try clear hx7_0
            try clear p2
            try clear p224
            try clear p7
            try clear q224
            try clear q7
            obtain ⟨x5_2, x28_2, rfl, HA, HK2, HO_5, HO_26, HB⟩ := hrel
            have hl5_2 := (Kd.R_reads' HO_5.out).1
            rw [hl5_2] at HO_5
            (try simp only [hl5_2])
            (try simp only [hl5_2] at HO_26)
            cases gk with
            | zero => exact absurd HA.out (by simp [impl_reachable.l1])
            | succ k2 =>
             have H := HA.out
             clear HA
             simp only [impl_reachable.l1] at H
             by_cases c20 : x28_2 < (t225.length : Int)
             ·rw [if_pos c20] at H
              have c20b0 : decide (x28_2 < (t225.length : Int)) = true := decide_eq_true c20
              (try (have c20hhl5_1 := c20b0; simp only [hl5_1] at c20hhl5_1))
              (try (have c20hhl5_2 := c20b0; simp only [hl5_2] at c20hhl5_2))
              clear c20
              by_cases c21 : 0 ≤ x28_2
              ·rw [if_pos c21] at H
               have c21b0 : decide (0 ≤ x28_2) = true := decide_eq_true c21
               clear c21
               by_cases c22 : x28_2 < (t225.length : Int)
               ·rw [if_pos c22] at H
                have c22b0 : decide (x28_2 < (t225.length : Int)) = true := decide_eq_true c22
                (try (have c22hhl5_1 := c22b0; simp only [hl5_1] at c22hhl5_1))
                (try (have c22hhl5_2 := c22b0; simp only [hl5_2] at c22hhl5_2))
                clear c22
                by_cases c23 : 0 ≤ (rd t225 x28_2)
                ·rw [if_pos c23] at H
                 have c23b0 : decide (0 ≤ (rd t225 x28_2)) = true := decide_eq_true c23
                 clear c23
                 by_cases c24 : (rd t225 x28_2) < (x5_2.length : Int)
                 ·rw [if_pos c24] at H
                  have c24b0 : decide ((rd t225 x28_2) < (x5_2.length : Int)) = true := decide_eq_true c24
                  (try (have c24hhl5_1 := c24b0; simp only [hl5_1] at c24hhl5_1))
                  (try (have c24hhl5_2 := c24b0; simp only [hl5_2] at c24hhl5_2))
                  clear c24
                  obtain ⟨y229, hy229⟩ : ∃ y_ : List Bool, y_ = (x5_2.set ((rd t225 x28_2) : Int).toNat true) := ⟨_, rfl⟩
                  replace H : (impl_reachable.l1 k2 l0 y229 (l0.length : Int) x17_1 t225 (t225.length : Int) (wrap64 (x28_2 + 1))) = some r := by first | (rw [hy229]; with_reducible exact H) | (have H2_ := (Option.bind_some _ _).symm.trans H; rw [hy229]; with_reducible exact H2_) | (have H2_ := (Option.bind_some _ _).symm.trans H; with_reducible exact H2_) | with_reducible exact H | (rw [hy229]; exact H) | exact H
                  have Ny229 := am_ hy229
                  clear hy229
                  have H' := am_ H
                  clear H
                  have p228 : 0 ≤ (x28_2 : Int) := od_
                  have q228 : x28_2 < (t225.length : Int) := od_
                  obtain ⟨ad228, e228, hx228_0⟩ := Kd.at_int (Kd.R_reads' HO_26.out).2.2 x28_2 p228 q228
                  cases e228
                  replace p228 := eq_true p228
                  replace q228 := eq_true q228
                  have p25 : 0 ≤ ((rd t225 x28_2) : Int) := od_
                  have q25 : ((rd t225 x28_2) : Int) < ((x5_2.length : Int) : Int) := od_
                  obtain ⟨hx25_0, hf25_0⟩ := Kd.R_celln false HO_5.out ((rd t225 x28_2) : Int) p25 q25
                  replace p25 := eq_true p25
                  replace q25 := eq_true q25
                  have HP26 := Kd.R_putg HO_5.out ((rd t225 x28_2) : Int) true
                  go_wp2_with (first | ((with_reducible refine gate_store (t := 4) (p := 34) rfl ?_); refine store_event (t := 4) (p := 34) (v := ?vo_w27) (w1 := (wr.setCell ⟨go7, ((rd t225 x28_2) : Int).toNat, none⟩ (.bool true))) ?hg ?ho ?hn ?hr ?_; (case ho => rfl); (case hg => rfl); (case hn => rfl); (case hr => first | (go_simp; done) | (go_simp; rfl)); intro w27 hw; have hg : wr.grownBy w27 (some go7) := (by rw [hw]; exact HP26.2); have hp_ : Kd.R Kd.bool 4 w27 w.heap.size (fun _ => True) (.slice (some ⟨go7, 0, none⟩) x5_2.length co7) y229 := (by rw [hw, Ny229.out]; exact HP26.1); clear HP26; replace HO_26 := am_ (Kd.R_over' (v := (.slice (some ⟨go7, 0, none⟩) x5_2.length co7)) (rq_ HO_26.out) (Kd.R_typed HO_5.out) (by decide) hg); replace HO_5 := am_ (hp_); replace HB := am_ ((y15_ : Below w.heap.size w w27)); clear hg hw hp_))
                  (try simp only [← hl5_2])
                  go_roundg k2
                  case measure => have := HK1.out; have := HK2.out; omega
                  case rel => exact ⟨(y229), (wrap64 (x28_2 + 1)), y14_, H', ⟨by have := HK1.out; have := HK2.out; omega⟩, ⟨by (try simp only [hl5_1]); (try simp only [hl5_2]); (with_reducible repeat (first | apply Kd.R_alloc | apply Kd.R_drewN | apply Kd.R_drew)); exact HO_5.out⟩, ⟨by (try simp only [hl5_1]); (try simp only [hl5_2]); (with_reducible repeat (first | apply Kd.R_alloc | apply Kd.R_drewN | apply Kd.R_drew)); exact HO_26.out⟩, ⟨bq_⟩⟩
                 ·rw [if_neg c24] at H
                  exact absurd H (by simp)
                ·rw [if_neg c23] at H
                 exact absurd H (by simp)
               ·rw [if_neg c22] at H
                exact absurd H (by simp)
              ·rw [if_neg c21] at H
               exact absurd H (by simp)
             ·rw [if_neg c20] at H
              have c20b0 : decide (x28_2 < (t225.length : Int)) = false := decide_eq_false c20
              (try (have c20hhl5_1 := c20b0; simp only [hl5_1] at c20hhl5_1))
              (try (have c20hhl5_2 := c20b0; simp only [hl5_2] at c20hhl5_2))
              clear c20
              have H' := am_ H
              clear H
              go_wp2
              (try simp only [← hl5_1, ← hl5_2])
              go_roundg k2
              case measure => have := HK1.out; have := HK2.out; omega
              case rel => exact ⟨(x5_2), (wrap64 (x17_1 + 1)), y14_, H', ⟨by have := HK1.out; have := HK2.out; omega⟩, ⟨by (try simp only [hl5_1]); (try simp only [hl5_2]); (with_reducible repeat (first | apply Kd.R_alloc | apply Kd.R_drewN | apply Kd.R_drew)); exact HO_5.out⟩, ⟨bq_⟩⟩
          ·replace c16 := Bool.eq_false_iff.mpr c16
           subst c16
           have H1 : (impl_reachable.l0 k1 l0 x5_1 (l0.length : Int) (wrap64 (x17_1 + 1))) = some r := by rw [if_neg (show ¬ (false = true) by decide)] at H; exact H
           clear H
           have H := H1
           clear H1
           have H' := am_ H
           clear H
           have p224 : 0 ≤ (x17_1 : Int) := od_
           have q224 : x17_1 < (x5_1.length : Int) := od_
           obtain ⟨ad224, e224, hx224_0⟩ := Kd.at_bool (Kd.R_reads' HO_5.out).2.2 x17_1 p224 q224
           (try rw [← Nbq15.out] at hx224_0)
           obtain rfl : (⟨go7, 0, none⟩ : Addr) = ad224 := (by injection e224)
           (first | simp only [add_plain] at hx224_0 | simp only [add_at] at hx224_0 | simp only [Addr.add, Nat.zero_add] at hx224_0 | skip)
           replace p224 := eq_true p224
           replace q224 := eq_true q224
           go_wp2
           (try simp only [← hl5_1])
           go_roundg k1
           case measure => have := HK1.out; omega
           case rel => exact ⟨(x5_1), (wrap64 (x17_1 + 1)), y14_, H', ⟨by have := HK1.out; omega⟩, ⟨by (try simp only [hl5_1]); (with_reducible repeat (first | apply Kd.R_alloc | apply Kd.R_drewN | apply Kd.R_drew)); exact HO_5.out⟩, ⟨bq_⟩⟩
         ·rw [if_neg c14] at H
          exact absurd H (by simp)
        ·rw [if_neg c13] at H
         exact absurd H (by simp)
       ·rw [if_neg c12] at H
        have c12b0 : decide (x17_1 < (l0.length : Int)) = false := decide_eq_false c12
        (try (have c12hhl5_1 := c12b0; simp only [hl5_1] at c12hhl5_1))
        clear c12
        obtain rfl := Option.some.inj H
        go_wp2
        go_ret
        exact ⟨_, by first | rfl | (simp [errW_none, errW_some] <;> rfl) | (simp [*, errW_none, errW_some] <;> rfl), rq_ HO_5.out, bq_⟩
    ·rw [if_neg c6] at H
     exact absurd H (by simp)
   ·rw [if_neg c5] at H
    exact absurd H (by simp)
  ·rw [if_neg c4] at H
   exact absurd H (by simp)
 ·rw [if_neg c3] at H
  exact absurd H (by simp)
def impl_ReachedIn.pr (l : List Bool) (i : Int) : Option Bool := if 0 ≤ i then (if i < (l.length : Int) then some (rdOf false l i) else none) else none
set_option maxHeartbeats 4000000 in
theorem impl_ReachedIn.pr_calls (B : Nat) (A : Option Addr) (c : Nat) (l : List Bool) (x : Int) (v : Bool) (w : World) (hcl : w.cell? ⟨B, 0, none⟩ = some (.slice A l.length c)) (hr : Kd.C Kd.bool w A l.length l) (h : impl_ReachedIn.pr l x = some v) :
  Calls Try.prog 52 #[.int .i64 x, .pointer (some ⟨B, 0, none⟩)] w fun e w' => e = .returned (.bool v) ∧ Drawn0 w w' := by
 have HR := am_ hr
 unfold impl_ReachedIn.pr at h
 by_cases c5 : 0 ≤ x
 ·rw [if_pos c5] at h
  by_cases c6 : x < (l.length : Int)
  ·rw [if_pos c6] at h
   obtain rfl := Option.some.inj h
   clear h hr
   obtain ⟨ad101, e101, hx101_0⟩ := Kd.at_bool HR.out x c5 c6
   cases e101
   have p101 := eq_true c5
   have q101 := eq_true c6
   clear c5 c6
   go_enter Try.func52, Try.ntmps52
   go_wp2
   go_ret
   exact ⟨by first | rfl | (simp; done) | (simp [*]; done), by repeat (first | exact Drawn0.refl _ | apply Drawn0.step)⟩
  ·rw [if_neg c6] at h; cases h
 ·rw [if_neg c5] at h; cases h
def impl_ReachedIn.lst : Nat → List Bool → Int → List Int → Int → Option (List Int)
 | 0, _, _, _, _ => none
 | k + 1, l, many, out, i => if i < many then ((impl_ReachedIn.pr l i).bind fun t => (if t = true then (if out.length < 17592186044416 then impl_ReachedIn.lst k l many (out ++ [i]) (wrap64 (i + 1)) else none) else impl_ReachedIn.lst k l many out (wrap64 (i + 1)))) else some out
set_option maxHeartbeats 8000000 in
set_option maxRecDepth 100000 in
theorem impl_ReachedIn.lst_calls (k : Nat) (B : Nat) (A : Option Addr) (c : Nat) (l : List Bool) (many : Int) (r : List Int) (w : World) (hB : B < w.heap.size) (hcl : w.cell? ⟨B, 0, none⟩ = some (.slice A l.length c)) (hr : Kd.C Kd.bool w A l.length l) (h : impl_ReachedIn.lst k l many [] 0 = some r) :
  Calls Try.prog 51 #[.int .i64 many, .func (.func 52) #[] #[.pointer (some ⟨B, 0, none⟩)]] w fun e w' => ∃ v0_ : Value, e = .returned v0_ ∧ Kd.R (Kd.int .i64) 3 w' w.heap.size (fun _ => True) v0_ r ∧ Below w.heap.size w w' := by
 have HR := am_ hr
 have HCL := am_ hcl
 have HBB := am_ hB
 have H' := am_ h
 clear hr hcl hB h
 have HB := am_ (Below.refl w.heap.size w)
 have hp : ∀ (W : World) (x : Int) (v : Bool), Below w.heap.size w W → impl_ReachedIn.pr l x = some v → Calls Try.prog 52 #[.int .i64 x, .pointer (some ⟨B, 0, none⟩)] W fun e w' => e = .returned (.bool v) ∧ Drawn0 W w' :=
  fun W x v hb hv => impl_ReachedIn.pr_calls B A c l x v W ((hb.cell (p := ⟨B, 0, none⟩) HBB.out).trans HCL.out) (Kd.C_below HR.out hb) hv
 have HP := am_ hp
 clear hp
 have eg := fun args w => enters_ (P := Try.prog) Try.func52 (by kernel_rfl) rfl args w
 go_enter Try.func51, Try.ntmps51
 go_wp2
 go_loopg [5, 8] k (fun kq v5 v8 w' => ∃ (o : List Int) (x : Int), v8 = .int .i64 x ∧ Aside0 (impl_ReachedIn.lst kq l many o x = some r) ∧ Aside0 (kq ≤ k) ∧ Aside0 (Kd.R (Kd.int .i64) 3 w' w.heap.size (fun _ => True) v5 o) ∧ Aside0 (Below w.heap.size w w'))
 case atStart => exact ⟨[], (0), y14_, H', ⟨Nat.le_refl _⟩, ⟨Kd.R_nil _ _ _ _ _⟩, ⟨bq_⟩⟩
 case round =>
  clear H'
  obtain ⟨o, x, rfl, HA, HK1, HO, HB⟩ := hrel
  cases gk with
  | zero => exact absurd HA.out (by simp [impl_ReachedIn.lst])
  | succ k1 =>
   have H := HA.out
   clear HA
   simp only [impl_ReachedIn.lst] at H
   by_cases c4 : x < many
   ·rw [if_pos c4] at H
    have c4b0 : decide (x < many) = true := decide_eq_true c4
    clear c4
    obtain ⟨t, A70, H⟩ := Option.bind_eq_some_iff.mp H
    have A7 := am_ A70
    clear A70
    by_cases c8 : t = true
    ·subst c8
     rw [if_pos rfl] at H
     by_cases c12 : o.length < 17592186044416
     ·rw [if_pos c12] at H
      have LMc12 := am_ c12
      clear c12
      have H' := am_ H
      clear H
      go_wp2_with (first | (go_at_call 52; refine (HP.out _ x true (bq_) A7.out).mono ?_; rintro e w' ⟨rfl, ⟨nd, rfl⟩⟩) | ((with_reducible refine gate_builtin (b := .append) (xs := #[.tmp 14, .tmp 16]) rfl ?_); at_builtin; refine Kd.R_append (Kd.int .i64) (w0 := w) w.heap.size rfl (.tmp 14) (.tmp 16) 30 3 (.int .i64 0) 8 rfl Try.underlying30 info3 rfl (by decide) (by omega) u5 o x [.int .i64 x] (fun _ => True) (fun _ => False) rfl rfl ?aP (fun _ hk => hk.elim) ?aF ?aO ?aB ?aS ?aL ?_; (case aP => exact rfl); (case aB => exact (bq_)); (case aF => exact (fun _ _ => trivial)); (case aO => exact (rq_ HO.out)); (case aS => exact (below_size (bq_))); (case aL => have := LMc12.out; omega); intro v121 w13 ho hb hg hat; replace HB := am_ (hb); have HO2 := am_ (ho); clear HO; clear ho hb hg hat))
      go_roundg k1
      case measure => have := HK1.out; omega
      case rel => exact ⟨_, (wrap64 (x + 1)), y14_, H', ⟨by have := HK1.out; omega⟩, ⟨rq_ HO2.out⟩, ⟨bq_⟩⟩
     ·rw [if_neg c12] at H
      exact absurd H (by simp)
    ·replace c8 := Bool.eq_false_iff.mpr c8
     subst c8
     rw [if_neg (by simp)] at H
     have H' := am_ H
     clear H
     go_wp2_with (go_at_call 52; refine (HP.out _ x false (bq_) A7.out).mono ?_; rintro e w' ⟨rfl, ⟨nd, rfl⟩⟩)
     go_roundg k1
     case measure => have := HK1.out; omega
     case rel => exact ⟨_, (wrap64 (x + 1)), y14_, H', ⟨by have := HK1.out; omega⟩, ⟨rq_ HO.out⟩, ⟨bq_⟩⟩
   ·rw [if_neg c4] at H
    have c4b0 : decide (x < many) = false := decide_eq_false c4
    clear c4
    obtain rfl := Option.some.inj H
    clear H
    go_wp2
    go_ret
    exact ⟨_, by first | rfl | (simp; done) | (simp [*]; done), rq_ HO.out, bq_⟩
def impl_ReachedIn.f (k : Nat) (l0 : List (S51)) : Option (List Int × Bool) := (impl_GoodProgram.f k l0).bind fun t => if t = true then ((impl_reachable.f k l0 0).bind fun y => (impl_ReachedIn.lst k y (l0.length : Int) [] 0).bind fun o => some (o, true)) else some (([] : List Int), false)
set_option maxHeartbeats 8000000 in
set_option maxRecDepth 100000 in
theorem impl_ReachedIn.calls (k : Nat) (A0 : Option Addr) (c0 : Nat) (l0 : List (S51)) (r1 : List Int) (r2 : Bool) (w : World) (hr0 : Kd.C k51 w A0 l0.length l0) (hc0 : l0.length ≤ c0) (h : impl_ReachedIn.f k l0 = some (r1, r2)) :
  Calls Try.prog 18 #[.slice A0 l0.length c0] w fun e w' => ∃ v0_ : Value, e = .returned (.tuple #[v0_, .bool r2]) ∧ Kd.R (Kd.int .i64) 3 w' w.heap.size (fun _ => True) v0_ r1 ∧ Below w.heap.size w w' := by
 have HR0 := am_ hr0
 have HC0 := am_ hc0
 clear hr0 hc0
 obtain ⟨t, A70, H⟩ := Option.bind_eq_some_iff.mp h
 have A7 := am_ A70
 clear A70 h
 have HB := am_ (Below.refl w.heap.size w)
 have eg1 := fun args w => enters_ (P := Try.prog) Try.func49 (by kernel_rfl) rfl args w
 have eg2 := fun args w => enters_ (P := Try.prog) Try.func50 (by kernel_rfl) rfl args w
 have eg3 := fun args w => enters_ (P := Try.prog) Try.func51 (by kernel_rfl) rfl args w
 by_cases c8 : t = true
 ·subst c8
  rw [if_pos rfl] at H
  obtain ⟨y, A80, H⟩ := Option.bind_eq_some_iff.mp H
  have A8 := am_ A80
  clear A80
  obtain ⟨o, A90, H⟩ := Option.bind_eq_some_iff.mp H
  have A9 := am_ A90
  clear A90
  simp only [Option.some.injEq, Prod.mk.injEq] at H
  obtain ⟨rfl, rfl⟩ := H
  go_enter Try.func18, Try.ntmps18
  go_wp2_with (first | (go_at_call 49; refine (impl_GoodProgram.calls k _ _ l0 true _ (Kd.C_below HR0.out (bq_)) HC0.out A7.out).mono ?_; rintro e w3 ⟨rfl, hb⟩; replace HB := bs_ hb; clear hb) | (go_at_call 50; refine (impl_reachable.calls k _ _ l0 0 y _ (Kd.C_below HR0.out (bq_)) HC0.out A8.out).mono ?_; rintro e w4 ⟨v0, rfl, ho, hb⟩; obtain ⟨Ao, co, eo⟩ := Kd.R_slice ho; subst eo; have n0_ := bs_ hb; have HO := am_ (Kd.R_reads' ho).2.2; clear HB hb ho; have HB := n0_; clear n0_) | ((with_reducible refine gate_dst (N := 4) rfl ?_); refine boxq_ (N := 4) (cs := #[.slice none 0 0]) (t := 57) ?_; intro g1 hg w5 hbox hb; have n0_ := bs_ hb; have HOB := am_ hb; have HG := am_ hg; have GE1 := am_ (y16_ : w.heap.size ≤ g1); clear HB; have HB := n0_; have BK1 := am_ hbox; clear n0_ hb hbox hg; have hcz1_0 := cq_ BK1.out 0 (.slice none 0 0); have hfz1_0 := blk_frozen BK1.out 0) | (go_at_call 51; refine (impl_ReachedIn.lst_calls k g1 Ao co y (l0.length : Int) o _ (blk_lt (blk_put (cs := #[.slice none 0 0]) BK1.out 0 _ rfl)) ((blk_cell (blk_put (cs := #[.slice none 0 0]) BK1.out 0 (.slice Ao y.length co) rfl) 0).trans rfl) (Kd.C_below HO.out (below_set HOB.out (by rw [HG.out]; exact Nat.le_refl _))) A9.out).mono ?_; rintro e w7 ⟨v1, rfl, ho2, hb⟩; have n0_ := am_ (Kd.R_lower ho2 (below_size (bq_))); have n1_ := bs_ hb; clear HB hb ho2; have HB := n1_; have HO2 := n0_; clear n0_ n1_))
  go_ret2
  exact ⟨_, by first | rfl | (simp; done) | (simp [*]; done), rq_ HO2.out, bq_⟩
 ·replace c8 := Bool.eq_false_iff.mpr c8
  subst c8
  rw [if_neg (by simp)] at H
  simp only [Option.some.injEq, Prod.mk.injEq] at H
  obtain ⟨rfl, rfl⟩ := H
  go_enter Try.func18, Try.ntmps18
  go_wp2_with (go_at_call 49; refine (impl_GoodProgram.calls k _ _ l0 false _ (Kd.C_below HR0.out (bq_)) HC0.out A7.out).mono ?_; rintro e w3 ⟨rfl, hb⟩; replace HB := bs_ hb; clear hb)
  go_ret2
  exact ⟨_, by first | rfl | (simp; done) | (simp [*]; done), Kd.R_nil _ _ _ _ _, bq_⟩
def impl_isStep.f (k : Nat) (l0 : List (S51)) (a1 : Int) : Option (Bool) := (impl_GoodProgram.f k l0).bind fun t230 => (if t230 = true then ((impl_in.f a1 0 (wrap64 ((l0.length : Int) - 1))).bind fun t231 => (some t231)) else (some false))
set_option maxHeartbeats 8000000 in
set_option maxRecDepth 100000 in
theorem impl_isStep.calls (k : Nat) (A0 : Option Addr) (c0 : Nat) (l0 : List (S51)) (a1 : Int) (r : Bool) (w : World) (hr0 : Kd.C k51 w A0 l0.length l0) (hc0 : l0.length ≤ c0) (h : impl_isStep.f k l0 a1 = some r) :
  Calls Try.prog 44 #[.slice A0 l0.length c0, .int .i64 a1] w fun e w' => e = .returned (.bool r) ∧ Below w.heap.size w w' := by
 have HR0 := am_ hr0
 have HC0 := am_ hc0
 clear hr0 hc0
 have HB := am_ (Below.refl w.heap.size w)
 have H : ((impl_GoodProgram.f k l0).bind fun t230 => (if t230 = true then ((impl_in.f a1 0 (wrap64 ((l0.length : Int) - 1))).bind fun t231 => (some t231)) else (some false))) = some r := h
 clear h
 replace H := Option.bind_eq_some_iff.mp H
 obtain ⟨t230, A30, H⟩ := H
 replace H : (if t230 = true then ((impl_in.f a1 0 (wrap64 ((l0.length : Int) - 1))).bind fun t231 => (some t231)) else (some false)) = some r := H
 have A3 := am_ A30
 clear A30
 by_cases c4 : t230 = true
 ·subst c4
  have H1 : ((impl_in.f a1 0 (wrap64 ((l0.length : Int) - 1))).bind fun t231 => (some t231)) = some r := by rw [if_pos rfl] at H; exact H
  clear H
  have H := H1
  clear H1
  replace H := Option.bind_eq_some_iff.mp H
  obtain ⟨t231, A50, H⟩ := H
  replace H : (some t231) = some r := H
  have A5 := am_ A50
  clear A50
  obtain rfl := Option.some.inj H
  go_enter Try.func44, Try.ntmps44
  go_wp2_with (first | ((with_reducible refine gl_ 49 rfl ?_); refine goesM_ (some 6) Try.func49 #[.slice A0 l0.length c0] ?_; (with_reducible refine (impl_GoodProgram.calls k _ _ l0 true _ ?side1 ?side2 A3.out).mono ?_); (case side1 => exact cm_ HR0.out); (case side2 => exact HC0.out); rintro e w6 ⟨rfl, hb⟩; refine ⟨_, rfl, ?_⟩; replace HB := bs_ hb; (try clear hb)) | (go_at_call 70; (with_reducible refine (impl_in.calls a1 0 (wrap64 ((l0.length : Int) - 1)) t231 _ A5.out).mono ?_); rintro e w' ⟨rfl, ⟨nd, rfl⟩⟩))
  go_ret
  exact ⟨by first | rfl | (simp [errW_none, errW_some] <;> rfl) | (simp [*, errW_none, errW_some] <;> rfl), bq_⟩
 ·replace c4 := Bool.eq_false_iff.mpr c4
  subst c4
  have H1 : (some false) = some r := by rw [if_neg (show ¬ (false = true) by decide)] at H; exact H
  clear H
  have H := H1
  clear H1
  obtain rfl := Option.some.inj H
  go_enter Try.func44, Try.ntmps44
  go_wp2_with (first | ((with_reducible refine gl_ 49 rfl ?_); refine goesM_ (some 6) Try.func49 #[.slice A0 l0.length c0] ?_; (with_reducible refine (impl_GoodProgram.calls k _ _ l0 false _ ?side1 ?side2 A3.out).mono ?_); (case side1 => exact cm_ HR0.out); (case side2 => exact HC0.out); rintro e w7 ⟨rfl, hb⟩; refine ⟨_, rfl, ?_⟩; replace HB := bs_ hb; (try clear hb)))
  go_ret
  exact ⟨by first | rfl | (simp [errW_none, errW_some] <;> rfl) | (simp [*, errW_none, errW_some] <;> rfl), bq_⟩
def slices_Index_int_int.l0 : Nat → List Int → Int → Int → Int → Option (Int)
 | 0, _, _, _, _ => none
 | k + 1, x0, x1, x7, x8 => if x8 < x7 then (if 0 ≤ x8 then (if x8 < (x0.length : Int) then (if x1 = (rd x0 x8) then (some x8) else (slices_Index_int_int.l0 k x0 x1 x7 (wrap64 (x8 + 1)))) else (none)) else (none)) else (some (-1))
def slices_Index_int_int.f (k : Nat) (l0 : List Int) (a1 : Int) : Option (Int) := slices_Index_int_int.l0 k l0 a1 (l0.length : Int) 0
set_option maxHeartbeats 8000000 in
set_option maxRecDepth 100000 in
theorem slices_Index_int_int.calls (k : Nat) (A0 : Option Addr) (c0 : Nat) (l0 : List Int) (a1 : Int) (r : Int) (w : World) (hr0 : Kd.C (Kd.int .i64) w A0 l0.length l0) (hc0 : l0.length ≤ c0) (h : slices_Index_int_int.f k l0 a1 = some r) :
  Calls Try.prog 74 #[.slice A0 l0.length c0, .int .i64 a1] w fun e w' => e = .returned (.int .i64 r) ∧ Drawn0 w w' := by
 have HR0 := am_ hr0
 have HC0 := am_ hc0
 clear hr0 hc0
 have H : (slices_Index_int_int.l0 k l0 a1 (l0.length : Int) 0) = some r := h
 clear h
 have H' := am_ H
 clear H
 go_enter Try.func74, Try.ntmps74
 go_wp2
 go_loopg [8] k (fun kq v8 w' => ∃ (x8_1 : Int), v8 = .int .i64 x8_1 ∧ Aside0 (slices_Index_int_int.l0 kq l0 a1 (l0.length : Int) x8_1 = some r) ∧ Aside0 (kq ≤ k) ∧ Drawn0 w w')
 case atStart => exact ⟨(0), y14_, H', ⟨Nat.le_refl _⟩, by repeat (first | exact Drawn0.refl _ | apply Drawn0.step)⟩
 case round =>
  clear H'
  try clear p2
  obtain ⟨x8_1, rfl, HA, HK1, ⟨m1, rfl⟩⟩ := hrel
  cases gk with
  | zero => exact absurd HA.out (by simp [slices_Index_int_int.l0])
  | succ k1 =>
   have H := HA.out
   clear HA
   simp only [slices_Index_int_int.l0] at H
   by_cases c3 : x8_1 < (l0.length : Int)
   ·rw [if_pos c3] at H
    have c3b0 : decide (x8_1 < (l0.length : Int)) = true := decide_eq_true c3
    clear c3
    by_cases c4 : 0 ≤ x8_1
    ·rw [if_pos c4] at H
     have c4b0 : decide (0 ≤ x8_1) = true := decide_eq_true c4
     clear c4
     by_cases c5 : x8_1 < (l0.length : Int)
     ·rw [if_pos c5] at H
      have c5b0 : decide (x8_1 < (l0.length : Int)) = true := decide_eq_true c5
      clear c5
      by_cases c6 : a1 = (rd l0 x8_1)
      ·rw [if_pos c6] at H
       have c6b0 : (a1 == (rd l0 x8_1)) = true := beq_iff_eq.mpr c6
       have c6b1 : (a1 != (rd l0 x8_1)) = false := bne_eq_false_iff_eq.mpr c6
       clear c6
       obtain rfl := Option.some.inj H
       have p232 : 0 ≤ (x8_1 : Int) := od_
       have q232 : x8_1 < (l0.length : Int) := od_
       obtain ⟨ad232, e232, hx232_0⟩ := Kd.at_int HR0.out x8_1 p232 q232
       cases e232
       replace p232 := eq_true p232
       replace q232 := eq_true q232
       go_wp2
       go_ret
       exact ⟨by first | rfl | (simp; done) | (simp [*]; done), by repeat (first | exact Drawn0.refl _ | apply Drawn0.step)⟩
      ·rw [if_neg c6] at H
       have c6b0 : (a1 == (rd l0 x8_1)) = false := beq_eq_false_iff_ne.mpr c6
       have c6b1 : (a1 != (rd l0 x8_1)) = true := bne_iff_ne.mpr c6
       have H' := am_ H
       clear H
       have p232 : 0 ≤ (x8_1 : Int) := od_
       have q232 : x8_1 < (l0.length : Int) := od_
       obtain ⟨ad232, e232, hx232_0⟩ := Kd.at_int HR0.out x8_1 p232 q232
       cases e232
       replace p232 := eq_true p232
       replace q232 := eq_true q232
       go_wp2
       go_roundg k1
       case measure => have := HK1.out; omega
       case rel => exact ⟨(wrap64 (x8_1 + 1)), y14_, H', ⟨by have := HK1.out; omega⟩, by repeat (first | exact Drawn0.refl _ | apply Drawn0.step)⟩
     ·rw [if_neg c5] at H
      exact absurd H (by simp)
    ·rw [if_neg c4] at H
     exact absurd H (by simp)
   ·rw [if_neg c3] at H
    have c3b0 : decide (x8_1 < (l0.length : Int)) = false := decide_eq_false c3
    clear c3
    obtain rfl := Option.some.inj H
    go_wp2
    go_ret
    exact ⟨by first | rfl | (simp; done) | (simp [*]; done), by repeat (first | exact Drawn0.refl _ | apply Drawn0.step)⟩
def slices_Contains_int_int.f (k : Nat) (l0 : List Int) (a1 : Int) : Option (Bool) := (slices_Index_int_int.f k l0 a1).bind fun t233 => (some (decide (t233 ≥ 0)))
set_option maxHeartbeats 8000000 in
set_option maxRecDepth 100000 in
theorem slices_Contains_int_int.calls (k : Nat) (A0 : Option Addr) (c0 : Nat) (l0 : List Int) (a1 : Int) (r : Bool) (w : World) (hr0 : Kd.C (Kd.int .i64) w A0 l0.length l0) (hc0 : l0.length ≤ c0) (h : slices_Contains_int_int.f k l0 a1 = some r) :
  Calls Try.prog 60 #[.slice A0 l0.length c0, .int .i64 a1] w fun e w' => e = .returned (.bool r) ∧ Drawn0 w w' := by
 have HR0 := am_ hr0
 have HC0 := am_ hc0
 clear hr0 hc0
 have H : ((slices_Index_int_int.f k l0 a1).bind fun t233 => (some (decide (t233 ≥ 0)))) = some r := h
 clear h
 replace H := Option.bind_eq_some_iff.mp H
 obtain ⟨t233, A30, H⟩ := H
 replace H : (some (decide (t233 ≥ 0))) = some r := H
 have A3 := am_ A30
 clear A30
 obtain rfl := Option.some.inj H
 go_enter Try.func60, Try.ntmps60
 go_wp2_with (first | ((with_reducible refine gl_ 74 rfl ?_); refine goesM_ (some 7) Try.func74 #[.slice A0 l0.length c0, .int .i64 a1] ?_; (with_reducible refine (slices_Index_int_int.calls k _ _ l0 a1 t233 _ ?side1 ?side2 A3.out).mono ?_); (case side1 => exact cm_ HR0.out); (case side2 => exact HC0.out); rintro e w' ⟨rfl, ⟨nd, rfl⟩⟩; refine ⟨_, rfl, ?_⟩))
 go_ret
 exact ⟨by first | rfl | (simp; done) | (simp [*]; done), by repeat (first | exact Drawn0.refl _ | apply Drawn0.step)⟩
end Go.Proofs.Ytcmhkgpalfljbaa.PPA
