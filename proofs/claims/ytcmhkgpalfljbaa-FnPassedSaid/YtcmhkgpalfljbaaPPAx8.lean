import Derived.Test.YtcmhkgpalfljbaaPPAx0
import Derived.Test.YtcmhkgpalfljbaaPPAx3
import Derived.Test.YtcmhkgpalfljbaaPPAx4
import Derived.Test.YtcmhkgpalfljbaaPPAx7
namespace Go.Proofs.Ytcmhkgpalfljbaa.PPA
open Go.RowKit Go.Proofs.YtcmhkgpalfljbaaW.PrintWords Go.Proofs.YtcmhkgpalfljbaaW.PrintLast Go.Proofs.YtcmhkgpalfljbaaW.PrintMore
attribute [local go_sem] max2_int min2_int max_two min_two max_three min_three max_four min_four   -- for this text's walks alone
set_option linter.unusedVariables false
set_option linter.unusedSimpArgs false
section
variable {α : Type} {d : Kd α} {e e2 base g cap n : Nat} {ok : Nat → Prop} {W : World}
theorem spec_l11Must.R_ne {v : Value} {xs : List α} (h : Kd.R d e W base ok v xs) (hg : g < base) : Kd.R d e W base (fun k => ok k ∧ k ≠ g) v xs :=
 Kd.R_mono (Kd.R_bound h) (fun k hk => ⟨hk.1, by have := hk.2.1; omega⟩)
theorem spec_l11Must.R_put1 {β : Type} {dd : Kd β} (hsz : dd.sz = 1) {ys : List β} (h : Kd.R dd e2 W base ok (.slice (some ⟨g, 0, none⟩) n cap) ys) (i : Nat) (v : Value) (y : β) (hv : dd.M W base (fun k => ok k ∧ k ≠ g) y [v]) :
  Kd.R dd e2 (W.setCell ⟨g, i, none⟩ v) base ok (.slice (some ⟨g, 0, none⟩) n cap) (ys.set i y) := by
 obtain rfl := (Kd.R_reads' h).1
 obtain ⟨h0, inner, ho, hr⟩ := h
 rw [hsz] at ho hr
 have hs := ho.stored i v
 have hl : inner.length = ys.length * 1 := hr.1
 have hm : ∀ (z : β) (cs : List Value), dd.M W base (fun k => ok k ∧ some k ≠ (Value.slice (some ⟨g, 0, none⟩) ys.length cap).ownBlock) z cs → dd.M (W.setCell ⟨g, i, none⟩ v) base (fun k => ok k ∧ some k ≠ (Value.slice (some ⟨g, 0, none⟩) ys.length cap).ownBlock) z cs := fun z cs hz => Kd.M_far hz (p := ⟨g, i, none⟩) (fun k hk e' => hk.2 (by rw [e']; rfl)) v
 refine ⟨h0, inner.set i v, by rw [hsz, List.length_set]; exact hs.1, ?_⟩
 rw [hsz]
 refine ⟨by rw [List.length_set, List.length_set]; exact hr.1, fun j p hj => ?_⟩
 rw [List.getElem?_set] at hj
 by_cases hij : i = j
 ·subst hij
  rw [if_pos rfl] at hj
  by_cases hi : i < ys.length
  ·rw [if_pos hi] at hj
   obtain rfl := Option.some.inj hj
   have e1 : ((inner.set i v).drop (i * 1)).take 1 = [v] := by
    rw [Nat.mul_one, List.drop_eq_getElem_cons (by rw [List.length_set]; omega), List.getElem_set_self]
    rfl
   rw [e1]
   exact hm _ _ (dd.M_mono (fun k hk => ⟨hk.1, fun e' => hk.2 (by simpa [Value.ownBlock] using e')⟩) hv)
  ·rw [if_neg hi] at hj; cases hj
 ·rw [if_neg hij] at hj
  have hjl : j < ys.length := (List.getElem?_eq_some_iff.1 hj).1
  have e1 : ((inner.set i v).drop (j * 1)).take 1 = (inner.drop (j * 1)).take 1 := by
   rw [Nat.mul_one, List.drop_eq_getElem_cons (show j < (inner.set i v).length by rw [List.length_set]; omega), List.drop_eq_getElem_cons (show j < inner.length by omega), List.getElem_set_ne hij]
   rfl
  rw [e1]
  exact hm _ _ (hr.2 j p hj)
theorem spec_l11Must.zip_set {β : Type} (xs : List β) (i : Nat) (x : β) : xs.zipIdx.set i (x, i) = (xs.set i x).zipIdx := by
 refine List.ext_getElem? (fun j => ?_)
 rw [List.getElem?_set, List.getElem?_zipIdx, List.getElem?_zipIdx, List.getElem?_set, List.length_zipIdx]
 by_cases h : i = j
 ·subst h
  rw [if_pos rfl, if_pos rfl]
  split <;> simp
 ·rw [if_neg h, if_neg h]
theorem spec_l11Must.S_putr {W1 : World} {xs : List (List α)} (hE : d.E = []) (h : Kd.S (Kd.slice e d) e2 W base (fun _ => True) (.slice (some ⟨g, 0, none⟩) n cap) xs) (hb : Below W.heap.size W W1) (hbase : base ≤ W.heap.size) (i : Nat) (v : Value) (x : List α) (hv : Kd.R d e W1 W.heap.size (fun _ => True) v x) :
  Kd.S (Kd.slice e d) e2 (W1.setCell ⟨g, i, none⟩ v) base (fun _ => True) (.slice (some ⟨g, 0, none⟩) n cap) (xs.set i x) := by
 have hgl := Kd.S_lt h g rfl
 obtain ⟨f, h⟩ := h
 refine ⟨fun k => if k < W.heap.size then f k else i, ?_⟩
 rw [← spec_l11Must.zip_set]
 have h2 := Kd.R_below (Kd.R_tag (f' := fun k => if k < W.heap.size then f k else i) h (fun k _ hk => if_pos hk)) hb
 refine spec_l11Must.R_put1 rfl h2 i v (x, i) ⟨v, rfl, ?_⟩
 have ht := Kd.R_lower (Kd.R_tight hE hv) hbase
 refine Kd.R_mono ht (fun k hk => ?_)
 have := Kd.R_base hv k hk.symm
 exact ⟨⟨trivial, by omega⟩, if_neg (by omega)⟩
theorem spec_l11Must.R_getr {xs : List (List α)} (h : Kd.R (Kd.slice e d) e2 W base ok (.slice (some ⟨g, 0, none⟩) n cap) xs) (i : Nat) (hi : i < xs.length) :
  ∃ v, W.cell? ⟨g, i, none⟩ = some v ∧ W.frozen? ⟨g, i, none⟩ = false ∧ Kd.R d e W base (fun k => ok k ∧ k ≠ g) v (xs.getD i []) := by
 obtain rfl := (Kd.R_reads' h).1
 obtain ⟨h0, inner, ho, hr⟩ := h
 have e0 : xs[i]? = some (xs.getD i []) := by simp [List.getD, hi]
 obtain ⟨v, e1, h1⟩ := hr.2 i _ e0
 have hl : inner.length = xs.length * 1 := hr.1
 replace e1 : (inner.drop (i * 1)).take 1 = [v] := e1
 rw [Nat.mul_one, List.drop_eq_getElem_cons (show i < inner.length by omega)] at e1
 have e2 : inner[i]'(by omega) = v := (List.cons.inj e1).1
 rcases ho.2 with ⟨hn, hz⟩ | ⟨g', cap', cur, hv, hb, hh, hc1, hc2, hc3, hc4⟩
 ·omega
 ·injection hv with hv
  injection hv with hv
  injection hv with hv
  subst hv
  have e3 : cur[i]? = some v := by
   have : inner[i]? = some v := by rw [List.getElem?_eq_getElem (show i < inner.length by omega), e2]
   rw [← hc4, List.getElem?_take] at this
   split at this
   ·simpa using this
   ·cases this
  exact ⟨v, (blk_cell hh i).trans e3, blk_frozen hh i, Kd.R_mono h1 (fun k hk => ⟨hk.1, fun e' => hk.2 (by rw [e']; rfl)⟩)⟩
end
def spec_l11Must.St (w W : World) (go n cb : Nat) (rows : List (List Int)) (A : Option Addr) (c : Nat) (q : List Int) : Prop :=
 Kd.S (Kd.slice 3 (Kd.int .i64)) 30 W w.heap.size (fun _ => True) (.slice (some ⟨go, 0, none⟩) n cb) rows ∧ Kd.R (Kd.int .i64) 3 W w.heap.size (fun k => k ≠ go) (.slice A q.length c) q ∧ Below w.heap.size w W
theorem spec_l11Must.St.below {w W W' : World} {go n cb : Nat} {rows : List (List Int)} {A : Option Addr} {c : Nat} {q : List Int} (h : spec_l11Must.St w W go n cb rows A c q) (hb : Below W.heap.size W W') : spec_l11Must.St w W' go n cb rows A c q :=
 ⟨Kd.S_below h.1 hb, Kd.R_below h.2.1 hb, below_step h.2.2 hb⟩
theorem spec_l11Must.St.go_le {w W : World} {go n cb : Nat} {rows : List (List Int)} {A : Option Addr} {c : Nat} {q : List Int} (h : spec_l11Must.St w W go n cb rows A c q) : w.heap.size ≤ go := Kd.S_base h.1 go rfl
theorem spec_l11Must.St.put {w W W1 : World} {go n cb : Nat} {rows : List (List Int)} {A : Option Addr} {c : Nat} {q : List Int} (h : spec_l11Must.St w W go n cb rows A c q) (hb : Below W.heap.size W W1) {v : Value} {x : List Int} (hv : Kd.R (Kd.int .i64) 3 W1 W.heap.size (fun _ => True) v x) (i : Nat) : spec_l11Must.St w (W1.setCell ⟨go, i, none⟩ v) go n cb (rows.set i x) A c q :=
 ⟨spec_l11Must.S_putr rfl h.1 hb (below_size h.2.2) i v x hv, Kd.R_far (Kd.R_below h.2.1 hb) (p := ⟨go, i, none⟩) (fun k hk => hk) v, below_set (below_step h.2.2 hb) h.go_le⟩
def spec_l11Must.l2 : Nat → List Int → List Int → List Int → Int → Option (List Int)
 | 0, _, _, _, _ => none
 | k + 1, row, all, both, x => if x < (all.length : Int) then (if 0 ≤ x then ((spec_l1Has.f k row (rd all x)).bind fun t => (if t = true then (if both.length < 17592186044416 then spec_l11Must.l2 k row all (both ++ [rd all x]) (wrap64 (x + 1)) else none) else spec_l11Must.l2 k row all both (wrap64 (x + 1)))) else none) else some both
def spec_l11Must.l1 : Nat → List (List Int) → List Int → List Int → Int → Option (List Int)
 | 0, _, _, _, _ => none
 | k + 1, rows, a, all, x => if x < (a.length : Int) then (if 0 ≤ x then (if 0 ≤ rd a x then (if rd a x < (rows.length : Int) then (if x = 0 then spec_l11Must.l1 k rows a (rows.getD (rd a x).toNat []) (wrap64 (x + 1)) else ((spec_l11Must.l2 k (rows.getD (rd a x).toNat []) all [] 0).bind fun b => spec_l11Must.l1 k rows a b (wrap64 (x + 1)))) else none) else none) else none) else some all
def spec_l11Must.l0 : Nat → List S51 → List Int → List (List Int) → Int → Option (List (List Int))
 | 0, _, _, _, _ => none
 | k + 1, l, q, rows, x => if x < (q.length : Int) then (if 0 ≤ x then ((spec_l11Ahead.f k l (rd q x)).bind fun a => ((spec_l11Must.l1 k rows a [] 0).bind fun all => if 0 ≤ rd q x then (if rd q x < (rows.length : Int) then (if all.length < 1099511627776 then spec_l11Must.l0 k l q (rows.set (rd q x).toNat (all ++ [rd q x])) (wrap64 (x + 1)) else none) else none) else none)) else none) else some rows
def spec_l11Must.f (k : Nat) (l0 : List (S51)) : Option (List (List Int)) := if 0 < l0.length ∧ l0.length ≤ 1099511627776 then ((spec_l11Reached.f k l0 0).bind fun q => spec_l11Must.l0 k l0 q (List.replicate l0.length []) 0) else none
theorem spec_l11Must.info30 : (Try.prog.info? 30).map (fun i => (i.zero, i.size, i.bytes)) = some (some (.slice none 0 0), 1, 24) := by kernel_rfl
set_option maxHeartbeats 8000000 in
set_option maxRecDepth 100000 in
theorem spec_l11Must.calls (k : Nat) (A0 : Option Addr) (c0 : Nat) (l0 : List (S51)) (r : List (List Int)) (w : World) (hr0 : Kd.C k51 w A0 l0.length l0) (hc0 : l0.length ≤ c0) (h : spec_l11Must.f k l0 = some r) :
  Calls Try.prog 62 #[.slice A0 l0.length c0] w fun e w' => ∃ v0_ : Value, e = .returned (v0_) ∧ Kd.S (Kd.slice 3 (Kd.int .i64)) 30 w' w.heap.size (fun _ => True) v0_ r ∧ Below w.heap.size w w' := by
 have HR0 := am_ hr0
 have HC0 := am_ hc0
 clear hr0 hc0
 unfold spec_l11Must.f at h
 by_cases hl : 0 < l0.length ∧ l0.length ≤ 1099511627776
 ·rw [if_pos hl] at h
  have HL := am_ hl
  clear hl
  obtain ⟨q, A80, H⟩ := Option.bind_eq_some_iff.mp h
  have A8 := am_ A80
  have H' := am_ H
  clear A80 h H
  go_enter Try.func62, Try.ntmps62
  go_wp2_with (first | ((with_reducible refine gate_dst (N := 14) rfl ?_); refine Kd.S_make (Kd.slice 3 (Kd.int .i64)) _ 30 rfl (N := 14) rfl 63 _ _ rfl (l0.length : Int) rfl rfl Try.underlying63 (.slice none 0 0) 24 spec_l11Must.info30 rfl (by decide) (by omega) [] (ok := fun _ => True) (okp := fun _ => True) ⟨_, rfl, Kd.R_nil _ _ _ _ _⟩ (fun _ hk => hk) trivial (Int.natCast_nonneg _) (by have := HL.out.2; simp only [Int.toNat_natCast]; omega) (Below.refl _ _) (Nat.le_refl _) ?_; intro v7 w7 ho hb hg_ hnew_; clear hg_ hnew_; simp only [Int.toNat_natCast] at ho; obtain ⟨go, cb, eo, gb_, gl_, cl_⟩ := Kd.S_form ho (by rw [List.length_replicate]; exact HL.out.1); clear gb_ gl_ cl_; rw [List.length_replicate] at eo; subst eo; have HO := am_ ho; have HB := am_ hb; clear ho hb) | (go_at_call 48; refine (spec_l11Reached.calls k _ _ l0 0 q _ (Kd.C_below HR0.out (bq_)) HC0.out A8.out).mono ?_; rintro e w5 ⟨v0, rfl, ho, hb⟩; obtain ⟨Aq, cq_, eo⟩ := Kd.R_slice ho; subst eo; have HS := am_ (show spec_l11Must.St w w5 go l0.length cb (List.replicate l0.length []) Aq cq_ q from ⟨Kd.S_below HO.out hb, Kd.R_mono (Kd.R_lower (spec_l11Must.R_ne ho (Kd.S_lt HO.out go rfl)) (below_size (bq_))) (fun k hk => hk.2), below_step (bq_) hb⟩); clear HB HO ho hb))
  go_loopg [18] k (fun kq v18 w' => ∃ (rows : List (List Int)) (x : Int), v18 = .int .i64 x ∧ Aside0 (spec_l11Must.l0 kq l0 q rows x = some r) ∧ Aside0 (kq ≤ k) ∧ Aside0 (spec_l11Must.St w w' go l0.length cb rows Aq cq_ q))
  case atStart => exact ⟨_, _, y14_, H', ⟨Nat.le_refl _⟩, ⟨y8_⟩⟩
  case round =>
   clear H' HS A8
   obtain ⟨rows, x, rfl, HA, HK1, HS⟩ := hrel
   cases gk with
   | zero => exact absurd HA.out (by simp [spec_l11Must.l0])
   | succ k1 =>
    have H := HA.out
    clear HA
    simp only [spec_l11Must.l0] at H
    by_cases c4 : x < (q.length : Int)
    ·rw [if_pos c4] at H
     have c4b0 : decide (x < (q.length : Int)) = true := decide_eq_true c4
     by_cases c5 : 0 ≤ x
     ·rw [if_pos c5] at H
      obtain ⟨adq, e101, hxq⟩ := Kd.at_int (Kd.R_reads' HS.out.2.1).2.2 x c5 c4
      cases e101
      have p101 := eq_true c5
      have q101 := eq_true c4
      clear c4 c5
      obtain ⟨a, A80, H⟩ := Option.bind_eq_some_iff.mp H
      have A8 := am_ A80
      clear A80
      obtain ⟨all1, AL0, H⟩ := Option.bind_eq_some_iff.mp H
      have AL := am_ AL0
      clear AL0
      have H1' := am_ H
      clear H
      go_wp2_with (go_at_call 58; refine (spec_l11Ahead.calls k1 _ _ l0 (rd q x) a _ (Kd.C_below HR0.out HS.out.2.2) HC0.out A8.out).mono ?_; rintro e w6 ⟨v0, rfl, ho, hb⟩; obtain ⟨Aa, ca, eo⟩ := Kd.R_slice ho; subst eo; have n0_ := am_ (HS.out.below hb); have HA2 := am_ (Kd.R_reads' ho).2.2; have HCA := am_ (Kd.R_reads' ho).2.1; clear HS ho hb; have HS := n0_; clear n0_)
      clear hxq p101 q101 c4b0 A8
      go_loopg [6, 26] k1 (fun kq v6 v26 w' => ∃ (all : List Int) (x2 : Int) (Al : Option Addr) (cl : Nat), v6 = .slice Al all.length cl ∧ v26 = .int .i64 x2 ∧ Aside0 (spec_l11Must.l1 kq rows a all x2 = some all1) ∧ Aside0 (kq ≤ k1) ∧ Aside0 (spec_l11Must.St w w' go l0.length cb rows (some adq) cq_ q) ∧ Aside0 (Kd.C (Kd.int .i64) w' Aa a.length a) ∧ Aside0 (Kd.C (Kd.int .i64) w' Al all.length all) ∧ Aside0 (all.length ≤ cl))
      case atStart => exact ⟨[], _, none, 0, rfl, y14_, AL, ⟨Nat.le_refl _⟩, ⟨y8_⟩, ⟨(by first | exact HA2.out | exact Kd.C_below HA2.out y12_)⟩, ⟨Kd.C_nil _ _⟩, ⟨Nat.le_refl _⟩⟩
      case round =>
       clear AL HS HA2
       obtain ⟨all, x2, Al, cl, rfl, rfl, HA, HK2, HS, HA2, HCL, HCC⟩ := hrel
       rename World => w2
       cases gk with
       | zero => exact absurd HA.out (by simp [spec_l11Must.l1])
       | succ k2 =>
        have H := HA.out
        clear HA
        simp only [spec_l11Must.l1] at H
        by_cases c6 : x2 < (a.length : Int)
        ·rw [if_pos c6] at H
         have c6b0 : decide (x2 < (a.length : Int)) = true := decide_eq_true c6
         by_cases c7 : 0 ≤ x2
         ·rw [if_pos c7] at H
          obtain ⟨ada, e102, hxa⟩ := Kd.at_int HA2.out x2 c7 c6
          cases e102
          have p102 := eq_true c7
          have q102 := eq_true c6
          clear c6 c7
          by_cases c8 : 0 ≤ rd a x2
          ·rw [if_pos c8] at H
           by_cases c9 : rd a x2 < (rows.length : Int)
           ·rw [if_pos c9] at H
            have en : rows.length = l0.length := (Kd.S_reads' HS.out.1).1.symm
            obtain ⟨vr, hcr, hfr, hrr⟩ := spec_l11Must.R_getr (Kd.S_R HS.out.1) (rd a x2).toNat (by omega)
            obtain ⟨Ar, cr, er⟩ := Kd.R_slice hrr
            subst er
            have HRW := am_ (Kd.R_reads' hrr).2.2
            have HCW := am_ (Kd.R_reads' hrr).2.1
            rw [en] at c9
            have p103 := eq_true c8
            have q103 := eq_true c9
            clear c8 c9 en hrr
            by_cases c10 : x2 = 0
            ·rw [if_pos c10] at H
             have c10b0 : decide (x2 = 0) = true := decide_eq_true c10
             have c10b1 : (x2 == 0) = true := by rw [c10]; rfl
             have H' := am_ H
             clear H c10
             go_wp2
             go_roundg k2
             case measure => have := HK2.out; omega
             case rel => exact ⟨_, _, _, _, rfl, y14_, H', ⟨by have := HK2.out; omega⟩, ⟨y8_⟩, ⟨(by first | exact HA2.out | exact Kd.C_below HA2.out y12_)⟩, ⟨by (with_reducible repeat (first | apply Kd.C_alloc | apply Kd.C_drewN | apply Kd.C_drew)); exact HRW.out⟩, HCW⟩
            ·rw [if_neg c10] at H
             have c10b0 : decide (x2 = 0) = false := decide_eq_false c10
             have c10b1 : (x2 == 0) = false := by simp [c10]
             clear c10
             obtain ⟨both1, AB0, H⟩ := Option.bind_eq_some_iff.mp H
             have AB := am_ AB0
             have H2' := am_ H
             clear AB0 H
             go_wp2
             clear hxa p102 q102 c6b0 c10b0 c10b1
             go_loopg [9, 39] k2 (fun kq v9 v39 w' => ∃ (both : List Int) (x3 : Int), v39 = .int .i64 x3 ∧ Aside0 (spec_l11Must.l2 kq (rows.getD (rd a x2).toNat []) all both x3 = some both1) ∧ Aside0 (kq ≤ k2) ∧ Aside0 (Kd.R (Kd.int .i64) 3 w' w2.heap.size (fun _ => True) v9 both) ∧ Aside0 (Below w2.heap.size w2 w'))
             case atStart => exact ⟨[], _, y14_, AB, ⟨Nat.le_refl _⟩, ⟨Kd.R_nil _ _ _ _ _⟩, ⟨by repeat (first | exact Below.refl _ _ | apply below_drew1 | apply pw_below_drewN | apply below_alloc)⟩⟩
             case round =>
              clear AB
              obtain ⟨both, x3, rfl, HA, HK3, HO3, HB3⟩ := hrel
              cases gk with
              | zero => exact absurd HA.out (by simp [spec_l11Must.l2])
              | succ k3 =>
               have H := HA.out
               clear HA
               simp only [spec_l11Must.l2] at H
               by_cases c11 : x3 < (all.length : Int)
               ·rw [if_pos c11] at H
                have c11b0 : decide (x3 < (all.length : Int)) = true := decide_eq_true c11
                by_cases c12 : 0 ≤ x3
                ·rw [if_pos c12] at H
                 obtain ⟨adl, e103, hxl⟩ := Kd.at_int (Kd.C_below HCL.out HB3.out) x3 c12 c11
                 cases e103
                 have p104 := eq_true c12
                 have q104 := eq_true c11
                 clear c11 c12
                 replace hcr := (HB3.out.cell (World.block_lt_of_cell? w2 _ hcr)).trans hcr
                 obtain ⟨t, A140, H⟩ := Option.bind_eq_some_iff.mp H
                 have A14 := am_ A140
                 clear A140
                 by_cases c14 : t = true
                 ·subst c14
                  rw [if_pos rfl] at H
                  by_cases c15 : both.length < 17592186044416
                  ·rw [if_pos c15] at H
                   have LM3 := am_ c15
                   have H' := am_ H
                   clear H c15
                   go_wp2_with (first | (go_at_call 55; refine (spec_l1Has.calls k3 _ _ (rows.getD (rd a x2).toNat []) (rd all x3) true _ (Kd.C_below HRW.out HB3.out) HCW.out A14.out).mono ?_; rintro e w' ⟨rfl, ⟨nd, rfl⟩⟩) | ((with_reducible refine gate_builtin (b := .append) (xs := #[.tmp 49, .tmp 51]) rfl ?_); at_builtin; refine Kd.R_append (Kd.int .i64) (w0 := w2) w2.heap.size rfl (.tmp 49) (.tmp 51) 30 3 (.int .i64 0) 8 rfl Try.underlying30 info3 rfl (by decide) (by omega) u9 both (rd all x3) [.int .i64 (rd all x3)] (fun _ => True) (fun _ => False) rfl rfl ?aP (fun _ hk => hk.elim) ?aF ?aO ?aB ?aS ?aL ?_; (case aP => exact rfl); (case aB => exact y10_); (case aF => exact (fun _ _ => trivial)); (case aO => exact (rq_ HO3.out)); (case aS => exact (below_size y10_)); (case aL => have := LM3.out; omega); intro v121 w13 ho hb hg hat; replace HB3 := am_ hb; replace HO3 := am_ ho; clear ho hb hg hat))
                   go_roundg k3
                   case measure => have := HK3.out; omega
                   case rel => exact ⟨_, _, y14_, H', ⟨by have := HK3.out; omega⟩, ⟨rq_ HO3.out⟩, ⟨by repeat (first | (with_reducible first | exact HB3.out | apply below_alloc | apply pw_below_drewN | apply below_drew1) | exact HB3.out)⟩⟩
                  ·rw [if_neg c15] at H; cases H
                 ·replace c14 := Bool.eq_false_iff.mpr c14
                  subst c14
                  rw [if_neg (by simp)] at H
                  have H' := am_ H
                  clear H
                  go_wp2_with (go_at_call 55; refine (spec_l1Has.calls k3 _ _ (rows.getD (rd a x2).toNat []) (rd all x3) false _ (Kd.C_below HRW.out HB3.out) HCW.out A14.out).mono ?_; rintro e w' ⟨rfl, ⟨nd, rfl⟩⟩)
                  go_roundg k3
                  case measure => have := HK3.out; omega
                  case rel => exact ⟨_, _, y14_, H', ⟨by have := HK3.out; omega⟩, ⟨rq_ HO3.out⟩, ⟨by repeat (first | (with_reducible first | exact HB3.out | apply below_alloc | apply pw_below_drewN | apply below_drew1) | exact HB3.out)⟩⟩
                ·rw [if_neg c12] at H; cases H
               ·rw [if_neg c11] at H
                have c11b0 : decide (x3 < (all.length : Int)) = false := decide_eq_false c11
                clear c11
                obtain rfl := Option.some.inj H
                clear H
                obtain ⟨Ab, cb2, eb⟩ := Kd.R_slice HO3.out
                subst eb
                go_wp2
                go_roundg k2
                case measure => have := HK2.out; omega
                case rel => exact ⟨_, _, _, _, rfl, y14_, H2', ⟨by have := HK2.out; omega⟩, ⟨HS.out.below y10_⟩, ⟨Kd.C_below HA2.out y10_⟩, ⟨by (with_reducible repeat (first | apply Kd.C_alloc | apply Kd.C_drewN | apply Kd.C_drew)); exact (Kd.R_reads' HO3.out).2.2⟩, ⟨(Kd.R_reads' HO3.out).2.1⟩⟩
           ·rw [if_neg c9] at H; cases H
          ·rw [if_neg c8] at H; cases H
         ·rw [if_neg c7] at H; cases H
        ·rw [if_neg c6] at H
         have c6b0 : decide (x2 < (a.length : Int)) = false := decide_eq_false c6
         clear c6
         obtain rfl := Option.some.inj H
         clear H
         have H := H1'.out
         clear H1'
         by_cases c20 : 0 ≤ rd q x
         ·rw [if_pos c20] at H
          by_cases c21 : rd q x < (rows.length : Int)
          ·rw [if_pos c21] at H
           by_cases c22 : all.length < 1099511627776
           ·rw [if_pos c22] at H
            have LM2 := am_ c22
            have H' := am_ H
            have en : rows.length = l0.length := (Kd.S_reads' HS.out.1).1.symm
            have spec_l11MustT := am_ (show (rd q x).toNat < rows.length from by omega)
            rw [en] at c21
            have p105 := eq_true c20
            have q105 := eq_true c21
            clear H c20 c21 c22 en
            go_wp2_with (first | ((with_reducible refine gate_dst (N := 58) rfl ?_); refine Kd.R_lit (Kd.int .i64) _ 3 ?hg (N := 58) ?hd (xs := ([] : List Int)) (inner := []) (ok := fun _ => True) (okp := fun _ => True) ?hr ?hp (fun _ hk => hk) trivial (Below.refl _ _) (Nat.le_refl _) (by simp) ?_; (case hd => rfl); (case hg => rfl); (case hr => first | (go_simp; done) | (go_simp; rfl)); (case hp => exact (Reps.none _ _)); intro v58 w8 ho hb hg_ hnew_; clear hg_ hnew_; have HO := am_ ho; have HB := am_ hb; clear ho hb) | ((with_reducible refine gate_builtin (b := .append) (xs := #[.tmp 58, .tmp 59]) rfl ?_); at_builtin; refine Kd.R_append_rows (Kd.int .i64) (w0 := w2) w2.heap.size rfl (.tmp 58) (.tmp 59) 30 3 (.int .i64 0) 8 rfl Try.underlying30 info3 rfl (by decide) (by omega) v58 [] all _ _ _ (fun _ => True) (fun _ => False) rfl rfl ?aO ?aR (fun _ _ h => h) (fun _ h => h.elim) ?aF ?aB ?aS ?aL ?_; (case aR => exact Kd.C_below HCL.out (bq_)); (case aB => exact (bq_)); (case aF => exact (fun _ _ => trivial)); (case aO => exact HO.out); (case aS => exact (below_size (bq_))); (case aL => have := LM2.out; simp only [List.length_nil]; omega); intro v62 w9 ho hb hg hat; rw [List.nil_append] at ho; replace HO := am_ ho; replace HB := am_ hb; clear ho hb hg hat) | ((with_reducible refine gate_builtin (b := .append) (xs := #[.tmp 60, .tmp 62]) rfl ?_); at_builtin; refine Kd.R_append (Kd.int .i64) (w0 := w2) w2.heap.size rfl (.tmp 60) (.tmp 62) 30 3 (.int .i64 0) 8 rfl Try.underlying30 info3 rfl (by decide) (by omega) v62 all (rd q x) [.int .i64 (rd q x)] (fun _ => True) (fun _ => False) rfl rfl ?aP (fun _ hk => hk.elim) ?aF ?aO ?aB ?aS ?aL ?_; (case aP => exact rfl); (case aB => exact (bq_)); (case aF => exact (fun _ _ => trivial)); (case aO => exact (rq_ HO.out)); (case aS => exact (below_size (bq_))); (case aL => have := LM2.out; omega); intro v64 w10 ho hb hg hat; obtain ⟨A6, c6, e6⟩ := Kd.R_slice ho; subst e6; replace HO := am_ ho; replace HB := am_ hb; clear ho hb hg hat; obtain ⟨vz, hcz, hfz, hrz⟩ := spec_l11Must.R_getr (Kd.S_R (Kd.S_below HS.out.1 HB.out)) (rd q x).toNat spec_l11MustT.out; clear hrz) | ((with_reducible refine gate_store (t := 30) (p := 64) rfl ?_); refine store_event (t := 30) (p := 64) (v := ?vo_w11) (w1 := (w10.setCell ⟨go, (rd q x).toNat, none⟩ (.slice A6 (all ++ [rd q x]).length c6))) ?hg ?ho ?hn ?hr ?_; (case ho => rfl); (case hg => rfl); (case hn => rfl); (case hr => first | (go_simp; done) | (go_simp; rfl)); intro w11 hw; replace HS := am_ (show spec_l11Must.St w w11 go l0.length cb (rows.set (rd q x).toNat (all ++ [rd q x])) (some adq) cq_ q from by rw [hw]; exact HS.out.put HB.out HO.out (rd q x).toNat); clear HB HO hw hcz hfz))
            go_roundg k1
            case measure => have := HK1.out; omega
            case rel => exact ⟨_, _, y14_, H', ⟨by have := HK1.out; omega⟩, ⟨y8_⟩⟩
           ·rw [if_neg c22] at H; cases H
          ·rw [if_neg c21] at H; cases H
         ·rw [if_neg c20] at H; cases H
     ·rw [if_neg c5] at H; cases H
    ·rw [if_neg c4] at H
     have c4b0 : decide (x < (q.length : Int)) = false := decide_eq_false c4
     clear c4
     obtain rfl := Option.some.inj H
     clear H
     go_wp2
     go_ret
     exact ⟨_, by first | rfl | (simp; done) | (simp [*]; done), (show spec_l11Must.St w _ go l0.length cb rows Aq cq_ q from y8_).1, (show spec_l11Must.St w _ go l0.length cb rows Aq cq_ q from y8_).2.2⟩
 ·rw [if_neg hl] at h; cases h
def spec_MustPass.f (k : Nat) (l0 : List (S51)) (a1 : Int) : Option (List Int × Bool) := (spec_l11There.f k l0 a1).bind fun t246 => (if t246 = true then ((spec_l11Reached.f k l0 0).bind fun t247 => ((spec_l1Has.f k t247 a1).bind fun t250 => (if t250 = true then ((some (([] : List Int) : List Int)).bind fun y251 => ((spec_l11Must.f k l0).bind fun t254 => (if 0 ≤ a1 then (if a1 < (t254.length : Int) then (if y251.length + (rd_L4 t254 a1).length < 17592186044416 then (some ((y251 ++ (rd_L4 t254 a1)), true)) else (none)) else (none)) else (none)))) else (some (([] : List Int), false))))) else (some (([] : List Int), false)))
set_option maxHeartbeats 8000000 in
set_option maxRecDepth 100000 in
theorem spec_MustPass.calls (k : Nat) (A0 : Option Addr) (c0 : Nat) (l0 : List (S51)) (a1 : Int) (r1 : List Int) (r2 : Bool) (w : World) (hr0 : Kd.C k51 w A0 l0.length l0) (hc0 : l0.length ≤ c0) (h : spec_MustPass.f k l0 a1 = some (r1, r2)) :
  Calls Try.prog 29 #[.slice A0 l0.length c0, .int .i64 a1] w fun e w' => ∃ v0_ : Value, e = .returned (.tuple #[v0_, .bool r2]) ∧ Kd.R (Kd.int .i64) 3 w' w.heap.size (fun _ => True) v0_ r1 ∧ Below w.heap.size w w' := by
 have HR0 := am_ hr0
 have HC0 := am_ hc0
 clear hr0 hc0
 have HB := am_ (Below.refl w.heap.size w)
 have H : ((spec_l11There.f k l0 a1).bind fun t246 => (if t246 = true then ((spec_l11Reached.f k l0 0).bind fun t247 => ((spec_l1Has.f k t247 a1).bind fun t250 => (if t250 = true then ((some (([] : List Int) : List Int)).bind fun y251 => ((spec_l11Must.f k l0).bind fun t254 => (if 0 ≤ a1 then (if a1 < (t254.length : Int) then (if y251.length + (rd_L4 t254 a1).length < 17592186044416 then (some ((y251 ++ (rd_L4 t254 a1)), true)) else (none)) else (none)) else (none)))) else (some (([] : List Int), false))))) else (some (([] : List Int), false)))) = some (r1, r2) := h
 clear h
 replace H := Option.bind_eq_some_iff.mp H
 obtain ⟨t246, A30, H⟩ := H
 replace H : (if t246 = true then ((spec_l11Reached.f k l0 0).bind fun t247 => ((spec_l1Has.f k t247 a1).bind fun t250 => (if t250 = true then ((some (([] : List Int) : List Int)).bind fun y251 => ((spec_l11Must.f k l0).bind fun t254 => (if 0 ≤ a1 then (if a1 < (t254.length : Int) then (if y251.length + (rd_L4 t254 a1).length < 17592186044416 then (some ((y251 ++ (rd_L4 t254 a1)), true)) else (none)) else (none)) else (none)))) else (some (([] : List Int), false))))) else (some (([] : List Int), false))) = some (r1, r2) := H
 have A3 := am_ A30
 clear A30
 by_cases c4 : t246 = true
 ·subst c4
  have H1 : ((spec_l11Reached.f k l0 0).bind fun t247 => ((spec_l1Has.f k t247 a1).bind fun t250 => (if t250 = true then ((some (([] : List Int) : List Int)).bind fun y251 => ((spec_l11Must.f k l0).bind fun t254 => (if 0 ≤ a1 then (if a1 < (t254.length : Int) then (if y251.length + (rd_L4 t254 a1).length < 17592186044416 then (some ((y251 ++ (rd_L4 t254 a1)), true)) else (none)) else (none)) else (none)))) else (some (([] : List Int), false))))) = some (r1, r2) := by rw [if_pos rfl] at H; exact H
  clear H
  have H := H1
  clear H1
  replace H := Option.bind_eq_some_iff.mp H
  obtain ⟨t247, A50, H⟩ := H
  replace H : ((spec_l1Has.f k t247 a1).bind fun t250 => (if t250 = true then ((some (([] : List Int) : List Int)).bind fun y251 => ((spec_l11Must.f k l0).bind fun t254 => (if 0 ≤ a1 then (if a1 < (t254.length : Int) then (if y251.length + (rd_L4 t254 a1).length < 17592186044416 then (some ((y251 ++ (rd_L4 t254 a1)), true)) else (none)) else (none)) else (none)))) else (some (([] : List Int), false)))) = some (r1, r2) := H
  have A5 := am_ A50
  clear A50
  replace H := Option.bind_eq_some_iff.mp H
  obtain ⟨t250, A60, H⟩ := H
  replace H : (if t250 = true then ((some (([] : List Int) : List Int)).bind fun y251 => ((spec_l11Must.f k l0).bind fun t254 => (if 0 ≤ a1 then (if a1 < (t254.length : Int) then (if y251.length + (rd_L4 t254 a1).length < 17592186044416 then (some ((y251 ++ (rd_L4 t254 a1)), true)) else (none)) else (none)) else (none)))) else (some (([] : List Int), false))) = some (r1, r2) := H
  have A6 := am_ A60
  clear A60
  by_cases c7 : t250 = true
  ·subst c7
   have H1 : ((some (([] : List Int) : List Int)).bind fun y251 => ((spec_l11Must.f k l0).bind fun t254 => (if 0 ≤ a1 then (if a1 < (t254.length : Int) then (if y251.length + (rd_L4 t254 a1).length < 17592186044416 then (some ((y251 ++ (rd_L4 t254 a1)), true)) else (none)) else (none)) else (none)))) = some (r1, r2) := by rw [if_pos rfl] at H; exact H
   clear H
   have H := H1
   clear H1
   obtain ⟨y251, hy251⟩ : ∃ y_ : List Int, y_ = (([] : List Int)) := ⟨_, rfl⟩
   replace H : ((spec_l11Must.f k l0).bind fun t254 => (if 0 ≤ a1 then (if a1 < (t254.length : Int) then (if y251.length + (rd_L4 t254 a1).length < 17592186044416 then (some ((y251 ++ (rd_L4 t254 a1)), true)) else (none)) else (none)) else (none))) = some (r1, r2) := by first | (rw [hy251]; with_reducible exact H) | (have H2_ := (Option.bind_some _ _).symm.trans H; rw [hy251]; with_reducible exact H2_) | (have H2_ := (Option.bind_some _ _).symm.trans H; with_reducible exact H2_) | with_reducible exact H | (rw [hy251]; exact H) | exact H
   have Ny251 := am_ hy251
   clear hy251
   replace H := Option.bind_eq_some_iff.mp H
   obtain ⟨t254, A80, H⟩ := H
   replace H : (if 0 ≤ a1 then (if a1 < (t254.length : Int) then (if y251.length + (rd_L4 t254 a1).length < 17592186044416 then (some ((y251 ++ (rd_L4 t254 a1)), true)) else (none)) else (none)) else (none)) = some (r1, r2) := H
   have A8 := am_ A80
   clear A80
   by_cases c9 : 0 ≤ a1
   ·rw [if_pos c9] at H
    have c9b0 : decide (0 ≤ a1) = true := decide_eq_true c9
    clear c9
    by_cases c10 : a1 < (t254.length : Int)
    ·rw [if_pos c10] at H
     have c10b0 : decide (a1 < (t254.length : Int)) = true := decide_eq_true c10
     clear c10
     by_cases c11 : y251.length + (rd_L4 t254 a1).length < 17592186044416
     ·rw [if_pos c11] at H
      have LMc11 := am_ c11
      clear c11
      obtain ⟨y258, hy258⟩ : ∃ y_ : List Int, y_ = (y251 ++ (rd_L4 t254 a1)) := ⟨_, rfl⟩
      replace H : (some (y258, true)) = some (r1, r2) := by first | (rw [hy258]; with_reducible exact H) | (have H2_ := (Option.bind_some _ _).symm.trans H; rw [hy258]; with_reducible exact H2_) | (have H2_ := (Option.bind_some _ _).symm.trans H; with_reducible exact H2_) | with_reducible exact H | (rw [hy258]; exact H) | exact H
      have Ny258 := am_ hy258
      clear hy258
      simp only [Option.some.injEq, Prod.mk.injEq] at H
      obtain ⟨rfl, rfl⟩ := H
      go_enter Try.func29, Try.ntmps29
      go_wp2_with (first | ((with_reducible refine gl_ 41 rfl ?_); refine goesM_ (some 8) Try.func41 #[.slice A0 l0.length c0, .int .i64 a1] ?_; (with_reducible refine (spec_l11There.calls k _ _ l0 a1 true _ ?side1 ?side2 A3.out).mono ?_); (case side1 => exact cm_ HR0.out); (case side2 => exact HC0.out); rintro e w12 ⟨rfl, hb⟩; refine ⟨_, rfl, ?_⟩; replace HB := bs_ hb; (try clear hb); (try clear hk)) | (go_at_call 48; (with_reducible refine (spec_l11Reached.calls k _ _ l0 0 t247 _ ?side1 ?side2 A5.out).mono ?_); (case side1 => exact cm_ (Kd.C_below HR0.out HB.out)); (case side2 => exact HC0.out); rintro e w13 ⟨v248, rfl, ho0, hb⟩; have HO249 := am_ (Kd.R_lower ho0 (below_size (bq_))); replace HB := bs_ hb; (try clear hb); (try clear hk); (try clear ho0); obtain ⟨Ao14, co14, eo14⟩ := Kd.R_slice HO249.out; subst eo14) | (go_at_call 55; (with_reducible refine (spec_l1Has.calls k _ _ t247 a1 true _ ?side1 ?side2 A6.out).mono ?_); (case side1 => exact cm_ (Kd.R_reads' HO249.out).2.2); (case side2 => exact (Kd.R_reads' HO249.out).2.1); rintro e w' ⟨rfl, ⟨nd, rfl⟩⟩) | ((with_reducible refine gate_dst (N := 17) rfl ?_); refine Kd.R_lit (Kd.int .i64) _ 3 ?hg (N := 17) ?hd (xs := ([] : List Int)) (inner := []) (ok := fun _ => True) (okp := fun _ => True) ?hr ?hp (fun _ hk => hk) trivial (Below.refl _ _) (Nat.le_refl _) (by simp) ?_; (case hd => rfl); (case hg => rfl); (case hr => first | (go_simp; done) | (go_simp; rfl)); (case hp => exact (Reps.none _ _)); intro v252 w15 ho16 hb hg_ hnew_; clear hg_ hnew_; (first | rw [← Ny251.out] at ho16 | (simp only [Int.reduceToNat] at ho16; rw [← Ny251.out] at ho16)); have HO253 := am_ (Kd.R_lower (Kd.R_new' ho16 (Kd.R_lt (rq_ HO249.out))) (below_size (bq_))); replace HO249 := am_ (Kd.R_elder' (rq_ HO249.out) (Kd.R_base ho16) hb); replace HB := bs_ hb; clear hb ho16) | ((with_reducible refine gl_ 62 rfl ?_); refine goesM_ (some 19) Try.func62 #[.slice A0 l0.length c0] ?_; (with_reducible refine (spec_l11Must.calls k _ _ l0 t254 _ ?side1 ?side2 A8.out).mono ?_); (case side1 => exact cm_ (Kd.C_below HR0.out HB.out)); (case side2 => exact HC0.out); rintro e w17 ⟨v255, rfl, ho0, hb⟩; refine ⟨_, rfl, ?_⟩; have HO256 := am_ (Kd.S_lower (Kd.S_new' (Kd.S_new' ho0 (Kd.R_lt (rq_ HO249.out))) (Kd.R_lt (rq_ HO253.out))) (below_size (bq_))); replace HO249 := am_ (Kd.R_below (rq_ HO249.out) hb); replace HO253 := am_ (Kd.R_below (rq_ HO253.out) hb); replace HB := bs_ hb; (try clear hb); (try clear hk); (try clear ho0); obtain ⟨Ao18, co18, eo18⟩ := Kd.S_slice HO256.out; subst eo18; have p257 : 0 ≤ (a1 : Int) := od_; have q257 : a1 < (t254.length : Int) := od_; obtain ⟨ad257, A257_0, c257_0, e257, hx257_0, hl257_0, hi257_0⟩ := at_L4 (Kd.S_reads' HO256.out).2.2 a1 p257 q257; cases e257; obtain ⟨ce257, hce257, hMe257, hcc257⟩ := Kd.S_get HO256.out [] a1 p257 (by first | exact q257 | exact od_ | (have e_ := (Kd.S_reads' HO256.out).1; omega)); obtain ⟨ve257_0, rfl, ge257_0⟩ := hMe257; have hv257_0 := hcc257 0 _ rfl; rw [Nat.add_zero, show ((Kd.slice 3 (Kd.int .i64))).sz = 1 from rfl, Nat.mul_one] at hv257_0; replace hv257_0 := Option.some.inj (hv257_0.symm.trans hx257_0); rw [hv257_0] at ge257_0; have HL257_0 := am_ (show Kd.R (Kd.int .i64) 3 _ _ _ _ (rd_L4 t254 a1) from ge257_0); clear hv257_0 ge257_0; clear hcc257 hce257; have HR257_0 := am_ hi257_0; have HC257_0 := am_ hl257_0; clear hi257_0 hl257_0; replace p257 := eq_true p257; replace q257 := eq_true q257) | ((with_reducible refine gate_builtin (b := .append) (xs := #[.tmp 17, .tmp 22]) rfl ?_); at_builtin; refine Kd.R_append_rows (Kd.int .i64) (w0 := w) w.heap.size rfl (.tmp 17) (.tmp 22) 30 3 (.int .i64 0) 8 rfl Try.underlying30 info3 rfl (by decide) (by omega) v252 y251 (rd_L4 t254 a1) _ _ _ (fun k_ => some k_ ≠ (.slice Ao14 t247.length co14 : Value).ownBlock) (fun _ => False) rfl rfl ?aO ?aR (fun _ _ h => h) (fun _ h => h.elim) ?aF ?aB ?aS ?aL ?_; (case aR => repeat (first | exact (by repeat (first | (with_reducible exact HR257_0.out) | (with_reducible refine Kd.C_alloc ?_ _) | (with_reducible refine Kd.C_drewN ?_ _) | (with_reducible refine Kd.C_drew ?_) | exact HR257_0.out)) | (with_reducible refine Kd.C_alloc ?_ _) | (with_reducible refine Kd.C_drewN ?_ _) | (with_reducible refine Kd.C_drew ?_))); (case aB => exact (bq_)); (case aF => exact (fun k_ hk => Kd.fresh' (Kd.R_lt (rq_ HO249.out)) k_ hk)); (case aO => exact (rq_ (Kd.R_mono HO253.out (fun _ hk => hk.2)))); (case aS => exact (below_size (bq_))); (case aL => have := LMc11.out; omega); intro v259 w19 ho hb hg hat; rw [← Ny258.out] at ho; replace HO249 := am_ (Kd.R_after (ok := (fun _ => True)) (rq_ HO249.out) hg hat); replace HO256 := am_ (Kd.S_after (ok := (fun k_ => some k_ ≠ (.slice Ao14 t247.length co14 : Value).ownBlock)) (by (with_reducible repeat (first | apply Kd.S_alloc | apply Kd.S_drewN | apply Kd.S_drew)); exact Kd.S_mono HO256.out (fun _ hk => ⟨hk.1.2, hk.2⟩)) hg hat); replace HL257_0 := am_ (Kd.R_after (ok := (fun k_ => some k_ ≠ (.slice Ao14 t247.length co14 : Value).ownBlock ∧ some k_ ≠ (.slice (some ad257) t254.length co18 : Value).ownBlock)) (rq_ (Kd.R_mono HL257_0.out (fun _ hk => ⟨⟨hk.1.1.2, hk.2⟩, hk.1.2⟩))) hg hat); replace HB := am_ (hb); have HO260 := am_ (ho); clear HO253; clear ho hb hg hat))
      go_ret2
      exact ⟨_, by first | rfl | (simp [errW_none, errW_some] <;> rfl) | (simp [*, errW_none, errW_some] <;> rfl), rq_ (Kd.R_mono HO260.out (fun _ hk => trivial)), bq_⟩
     ·rw [if_neg c11] at H
      exact absurd H (by simp)
    ·rw [if_neg c10] at H
     exact absurd H (by simp)
   ·rw [if_neg c9] at H
    exact absurd H (by simp)
  ·replace c7 := Bool.eq_false_iff.mpr c7
   subst c7
   have H1 : (some (([] : List Int), false)) = some (r1, r2) := by rw [if_neg (show ¬ (false = true) by decide)] at H; exact H
   clear H
   have H := H1
   clear H1
   simp only [Option.some.injEq, Prod.mk.injEq] at H
   obtain ⟨rfl, rfl⟩ := H
   go_enter Try.func29, Try.ntmps29
   go_wp2_with (first | ((with_reducible refine gl_ 41 rfl ?_); refine goesM_ (some 8) Try.func41 #[.slice A0 l0.length c0, .int .i64 a1] ?_; (with_reducible refine (spec_l11There.calls k _ _ l0 a1 true _ ?side1 ?side2 A3.out).mono ?_); (case side1 => exact cm_ HR0.out); (case side2 => exact HC0.out); rintro e w20 ⟨rfl, hb⟩; refine ⟨_, rfl, ?_⟩; replace HB := bs_ hb; (try clear hb)) | (go_at_call 48; (with_reducible refine (spec_l11Reached.calls k _ _ l0 0 t247 _ ?side1 ?side2 A5.out).mono ?_); (case side1 => exact cm_ (Kd.C_below HR0.out HB.out)); (case side2 => exact HC0.out); rintro e w21 ⟨v248, rfl, ho0, hb⟩; have HO249 := am_ (Kd.R_lower ho0 (below_size (bq_))); replace HB := bs_ hb; (try clear hb); (try clear ho0); obtain ⟨Ao22, co22, eo22⟩ := Kd.R_slice HO249.out; subst eo22) | (go_at_call 55; (with_reducible refine (spec_l1Has.calls k _ _ t247 a1 false _ ?side1 ?side2 A6.out).mono ?_); (case side1 => exact cm_ (Kd.R_reads' HO249.out).2.2); (case side2 => exact (Kd.R_reads' HO249.out).2.1); rintro e w' ⟨rfl, ⟨nd, rfl⟩⟩))
   go_ret2
   exact ⟨_, by first | rfl | (simp [errW_none, errW_some] <;> rfl) | (simp [*, errW_none, errW_some] <;> rfl), by first | exact Kd.R_nil _ _ _ _ _ | exact Kd.N_nil _ _ _ _ _ | exact Kd.V_nil _ _ _ _ _ | exact Kd.Q_nil _ _ _ _ _ | exact Kd.S_nil _ _ _ _ _, bq_⟩
 ·replace c4 := Bool.eq_false_iff.mpr c4
  subst c4
  have H1 : (some (([] : List Int), false)) = some (r1, r2) := by rw [if_neg (show ¬ (false = true) by decide)] at H; exact H
  clear H
  have H := H1
  clear H1
  simp only [Option.some.injEq, Prod.mk.injEq] at H
  obtain ⟨rfl, rfl⟩ := H
  go_enter Try.func29, Try.ntmps29
  go_wp2_with (first | ((with_reducible refine gl_ 41 rfl ?_); refine goesM_ (some 8) Try.func41 #[.slice A0 l0.length c0, .int .i64 a1] ?_; (with_reducible refine (spec_l11There.calls k _ _ l0 a1 false _ ?side1 ?side2 A3.out).mono ?_); (case side1 => exact cm_ HR0.out); (case side2 => exact HC0.out); rintro e w23 ⟨rfl, hb⟩; refine ⟨_, rfl, ?_⟩; replace HB := bs_ hb; (try clear hb)))
  go_ret2
  exact ⟨_, by first | rfl | (simp [errW_none, errW_some] <;> rfl) | (simp [*, errW_none, errW_some] <;> rfl), by first | exact Kd.R_nil _ _ _ _ _ | exact Kd.N_nil _ _ _ _ _ | exact Kd.V_nil _ _ _ _ _ | exact Kd.Q_nil _ _ _ _ _ | exact Kd.S_nil _ _ _ _ _, bq_⟩
end Go.Proofs.Ytcmhkgpalfljbaa.PPA
