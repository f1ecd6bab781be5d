import Derived.Test.YtcmhkgpalfljbaaPPAx0
import Derived.Test.YtcmhkgpalfljbaaPPAx4
namespace Go.Proofs.Ytcmhkgpalfljbaa.PPA
open Go.RowKit Go.Proofs.YtcmhkgpalfljbaaW.PrintWords Go.Proofs.YtcmhkgpalfljbaaW.PrintLast Go.Proofs.YtcmhkgpalfljbaaW.PrintMore
attribute [local go_sem] max2_int min2_int max_two min_two max_three min_three max_four min_four   -- for this text's walks alone
set_option linter.unusedVariables false
set_option linter.unusedSimpArgs false
def impl_Step_valid.offs (l : Int) : Nat := if l = 111 then 1 else if l = 100 then 2 else if l = 115 then 3 else if l = 105 then 4 else 5
def impl_Step_valid.fld (l o d s i t : Int) : Int := if l = 111 then o else if l = 100 then d else if l = 115 then s else if l = 105 then i else t
theorem impl_Step_valid.at_ {w : World} {g : Nat} {k o d s i t : Int} (h : w.heap[g]? = some (.cells #[.int .i64 k, .int .i64 o, .int .i64 d, .int .i64 s, .int .i64 i, .int .i64 t] 51 (0, 0))) (l : Int) :
  w.cell? ⟨g, impl_Step_valid.offs l, none⟩ = some (.int .i64 (impl_Step_valid.fld l o d s i t)) := by
 rw [blk_cell h]; unfold impl_Step_valid.offs impl_Step_valid.fld
 split; · rfl
 split; · rfl
 split; · rfl
 split <;> rfl
theorem impl_Step_valid.put_ {w : World} {g : Nat} {k o d s i t : Int} (h : w.heap[g]? = some (.cells #[.int .i64 k, .int .i64 o, .int .i64 d, .int .i64 s, .int .i64 i, .int .i64 t] 51 (0, 0))) (l : Int) :
  (w.setCell ⟨g, impl_Step_valid.offs l, none⟩ (.int .i64 0)).heap[g]? = some (.cells #[.int .i64 k, .int .i64 (if l = 111 then 0 else o), .int .i64 (if l = 111 then d else if l = 100 then 0 else d), .int .i64 (if l = 111 then s else if l = 100 then s else if l = 115 then 0 else s), .int .i64 (if l = 111 then i else if l = 100 then i else if l = 115 then i else if l = 105 then 0 else i), .int .i64 (if l = 111 then t else if l = 100 then t else if l = 115 then t else if l = 105 then t else 0)] 51 (0, 0)) := by
 refine blk_put h _ _ ?_
 unfold impl_Step_valid.offs
 split; · rfl
 split; · rfl
 split; · rfl
 split <;> rfl
set_option maxHeartbeats 8000000 in
set_option maxRecDepth 100000 in
theorem impl_Step_valid.field_calls (g : Nat) (l : Int) (w : World) :
  Calls Try.prog 88 #[.pointer (some ⟨g, 0, none⟩), .int .u8 l] w fun e w' => e = .returned (.pointer (some ⟨g, impl_Step_valid.offs l, none⟩)) ∧ Drawn0 w w' := by
 unfold impl_Step_valid.offs
 by_cases c1 : l = 111
 ·subst c1
  go_enter Try.func88, Try.ntmps88
  go_wp2
  go_ret
  exact ⟨by first | rfl | (simp; done) | (simp [*]; done), by repeat (first | exact Drawn0.refl _ | apply Drawn0.step)⟩
 ·have c1b : (l == 111) = false := beq_eq_false_iff_ne.mpr c1
  rw [if_neg c1]
  by_cases c2 : l = 100
  ·subst c2
   go_enter Try.func88, Try.ntmps88
   go_wp2
   go_ret
   exact ⟨by first | rfl | (simp; done) | (simp [*]; done), by repeat (first | exact Drawn0.refl _ | apply Drawn0.step)⟩
  ·have c2b : (l == 100) = false := beq_eq_false_iff_ne.mpr c2
   rw [if_neg c2]
   by_cases c3 : l = 115
   ·subst c3
    go_enter Try.func88, Try.ntmps88
    go_wp2
    go_ret
    exact ⟨by first | rfl | (simp; done) | (simp [*]; done), by repeat (first | exact Drawn0.refl _ | apply Drawn0.step)⟩
   ·have c3b : (l == 115) = false := beq_eq_false_iff_ne.mpr c3
    rw [if_neg c3]
    by_cases c4 : l = 105
    ·subst c4
     go_enter Try.func88, Try.ntmps88
     go_wp2
     go_ret
     exact ⟨by first | rfl | (simp; done) | (simp [*]; done), by repeat (first | exact Drawn0.refl _ | apply Drawn0.step)⟩
    ·have c4b : (l == 105) = false := beq_eq_false_iff_ne.mpr c4
     rw [if_neg c4]
     clear c1 c2 c3 c4
     go_enter Try.func88, Try.ntmps88
     go_wp2
     go_ret
     exact ⟨by first | rfl | (simp; done) | (simp [*]; done), by repeat (first | exact Drawn0.refl _ | apply Drawn0.step)⟩
theorem impl_Step_valid.eqA (d : Nat) (w : World) (x0 x1 x2 x3 x4 x5 y0 y1 y2 y3 y4 y5 : Int) :
  (Op.equalIn (d + 2) 51 (.agg #[.int .i64 x0, .int .i64 x1, .int .i64 x2, .int .i64 x3, .int .i64 x4, .int .i64 x5]) (.agg #[.int .i64 y0, .int .i64 y1, .int .i64 y2, .int .i64 y3, .int .i64 y4, .int .i64 y5])).run Try.prog w = .ok (x0 == y0 && (x1 == y1 && (x2 == y2 && (x3 == y3 && (x4 == y4 && (x5 == y5)))))) w := by
 refine eqA_of Try.underlying51 (by kernel_rfl) ?_
 refine eqf_cons (by rfl) (by go_simp; rfl) (by go_simp; rfl) (by go_simp) ?_
 refine eqf_cons (by rfl) (by go_simp; rfl) (by go_simp; rfl) (by go_simp) ?_
 refine eqf_cons (by rfl) (by go_simp; rfl) (by go_simp; rfl) (by go_simp) ?_
 refine eqf_cons (by rfl) (by go_simp; rfl) (by go_simp; rfl) (by go_simp) ?_
 refine eqf_cons (by rfl) (by go_simp; rfl) (by go_simp; rfl) (by go_simp) ?_
 exact eqf_last (by rfl) (by go_simp; rfl) (by go_simp; rfl) (by go_simp)
def impl_Step_valid.l0 : Nat → Int → Int → Int → Int → Int → Int → ByteArray → Int → Int → Int → Int → Int → Int → Option Bool
 | 0, _, _, _, _, _, _, _, _, _, _, _, _, _ => none
 | k + 1, s0, s1, s2, s3, s4, s5, b, r1, r2, r3, r4, r5, i => if i < (b.size : Int) then (if 0 ≤ i then ((impl_Step_ranges.f k s0 s1 s2 s3 s4 s5 (bt b i)).bind fun q => ((impl_in.f (impl_Step_valid.fld (bt b i) s1 s2 s3 s4 s5) q.1 q.2).bind fun t => (if t = true then impl_Step_valid.l0 k s0 s1 s2 s3 s4 s5 b (if bt b i = 111 then 0 else r1) (if bt b i = 111 then r2 else if bt b i = 100 then 0 else r2) (if bt b i = 111 then r3 else if bt b i = 100 then r3 else if bt b i = 115 then 0 else r3) (if bt b i = 111 then r4 else if bt b i = 100 then r4 else if bt b i = 115 then r4 else if bt b i = 105 then 0 else r4) (if bt b i = 111 then r5 else if bt b i = 100 then r5 else if bt b i = 115 then r5 else if bt b i = 105 then r5 else 0) (wrap64 (i + 1)) else some false))) else none) else ((impl_in.f s0 1 11).bind fun t => if t = true then some ((0 : Int) == 0 && (r1 == 0 && (r2 == 0 && (r3 == 0 && (r4 == 0 && (r5 == 0)))))) else some false)
def impl_Step_valid.f (k : Nat) (a0_0 : Int) (a0_1 : Int) (a0_2 : Int) (a0_3 : Int) (a0_4 : Int) (a0_5 : Int) : Option Bool := (impl_fields.f k a0_0).bind fun b => impl_Step_valid.l0 k a0_0 a0_1 a0_2 a0_3 a0_4 a0_5 b a0_1 a0_2 a0_3 a0_4 a0_5 0
section
attribute [local go_sem high] impl_Step_valid.eqA
set_option maxHeartbeats 16000000 in
set_option maxRecDepth 100000 in
theorem impl_Step_valid.calls (k : Nat) (a0_0 : Int) (a0_1 : Int) (a0_2 : Int) (a0_3 : Int) (a0_4 : Int) (a0_5 : Int) (r : Bool) (w : World) (h : impl_Step_valid.f k a0_0 a0_1 a0_2 a0_3 a0_4 a0_5 = some r) :
  Calls Try.prog 73 #[.agg #[.int .i64 a0_0, .int .i64 a0_1, .int .i64 a0_2, .int .i64 a0_3, .int .i64 a0_4, .int .i64 a0_5]] w fun e w' => e = .returned (.bool r) ∧ Below w.heap.size w w' := by
 have hu51 := Try.underlying51
 obtain ⟨b, A10, H⟩ := Option.bind_eq_some_iff.mp h
 have AF := am_ A10
 have H' := am_ H
 clear A10 H h
 have HB := am_ (Below.refl w.heap.size w)
 have eg86 := fun args w => enters_ (P := Try.prog) Try.func86 (by kernel_rfl) rfl args w
 have eg87 := fun args w => enters_ (P := Try.prog) Try.func87 (by kernel_rfl) rfl args w
 have eg88 := fun args w => enters_ (P := Try.prog) Try.func88 (by kernel_rfl) rfl args w
 have eg70 := fun args w => enters_ (P := Try.prog) Try.func70 (by kernel_rfl) rfl args w
 go_enter Try.func73, Try.ntmps73
 go_wp2_with (first | ((with_reducible refine gate_dst (N := 1) rfl ?_); refine boxq_ (N := 1) (cs := #[.int .i64 a0_0, .int .i64 a0_1, .int .i64 a0_2, .int .i64 a0_3, .int .i64 a0_4, .int .i64 a0_5]) (t := 51) ?_; intro g1 hg w1 hbox hb; have n0_ := bs_ hb; have n3_ := gz_ hg; clear HB; have HB := n0_; have BK1 := am_ hbox; have GE1 := n3_; clear n0_ n3_; clear hb hbox hg; have hcz1_0 := cq_ BK1.out 0 (.int .i64 a0_0); have hcz1_1 := cq_ BK1.out 1 (.int .i64 a0_1); have hcz1_2 := cq_ BK1.out 2 (.int .i64 a0_2); have hcz1_3 := cq_ BK1.out 3 (.int .i64 a0_3); have hcz1_4 := cq_ BK1.out 4 (.int .i64 a0_4); have hcz1_5 := cq_ BK1.out 5 (.int .i64 a0_5)) | ((with_reducible refine gate_dst (N := 3) rfl ?_); refine boxq_ (N := 3) (cs := #[.int .i64 0, .int .i64 0, .int .i64 0, .int .i64 0, .int .i64 0, .int .i64 0]) (t := 51) ?_; intro g2 hg w2 hbox hb; have n0_ := bs_ hb; have n1_ := bb_ BK1 hb; have n3_ := gz_ hg; have n4_ := am_ ((by rw [hg]; exact Nat.ne_of_lt (blk_lt BK1.out)) : g1 ≠ g2); clear HB BK1; have HB := n0_; have BK1 := n1_; have BK2 := am_ hbox; have GE2 := n3_; have NB12 := n4_; clear n0_ n1_ n3_ n4_; clear hb hbox hg hcz1_0 hcz1_1 hcz1_2 hcz1_3 hcz1_4 hcz1_5; have hnb := NB12.out; have hnc := Ne.symm NB12.out; have hcz1_0 := cq_ BK1.out 0 (.int .i64 a0_0); have hcz2_0 := cq_ BK2.out 0 (.int .i64 0); have hcz2_1 := cq_ BK2.out 1 (.int .i64 0); have hcz2_2 := cq_ BK2.out 2 (.int .i64 0); have hcz2_3 := cq_ BK2.out 3 (.int .i64 0); have hcz2_4 := cq_ BK2.out 4 (.int .i64 0); have hcz2_5 := cq_ BK2.out 5 (.int .i64 0); have hfz2_0 := blk_frozen BK2.out 0; have hfz2_1 := blk_frozen BK2.out 1; have hfz2_2 := blk_frozen BK2.out 2; have hfz2_3 := blk_frozen BK2.out 3; have hfz2_4 := blk_frozen BK2.out 4; have hfz2_5 := blk_frozen BK2.out 5) | (go_at_call 86; refine (impl_fields.calls k a0_0 b _ AF.out).mono ?_; rintro e w' ⟨rfl, ⟨nd, rfl⟩⟩))
 go_loopg [14] k (fun kq v14 w' => ∃ (x : Int) (y1 : Int) (y2 : Int) (y3 : Int) (y4 : Int) (y5 : Int), v14 = .int .i64 x ∧ Aside0 (impl_Step_valid.l0 kq a0_0 a0_1 a0_2 a0_3 a0_4 a0_5 b y1 y2 y3 y4 y5 x = some r) ∧ Aside0 (kq ≤ k) ∧ Aside0 (w'.heap[g1]? = some (.cells #[.int .i64 a0_0, .int .i64 a0_1, .int .i64 a0_2, .int .i64 a0_3, .int .i64 a0_4, .int .i64 a0_5] 51 (0, 0))) ∧ Aside0 (w'.heap[g2]? = some (.cells #[.int .i64 0, .int .i64 y1, .int .i64 y2, .int .i64 y3, .int .i64 y4, .int .i64 y5] 51 (0, 0))) ∧ Aside0 (Below w.heap.size w w'))
 case atStart => exact ⟨(0), a0_1, a0_2, a0_3, a0_4, a0_5, y14_, H', ⟨Nat.le_refl _⟩, ⟨by (with_reducible repeat (first | refine blk_drewN ?_ _ | refine blk_drew ?_ | refine blk_alloc ?_ _ | refine blk_far ?_ NB12.out _)); exact BK1.out⟩, ⟨by (with_reducible repeat (first | refine blk_drewN ?_ _ | refine blk_drew ?_ | refine blk_alloc ?_ _)); refine blk_put (cs := #[.int .i64 a0_0, .int .i64 a0_1, .int .i64 a0_2, .int .i64 a0_3, .int .i64 a0_4, .int .i64 a0_5]) ?_ 0 _ rfl; (with_reducible repeat (first | refine blk_drewN ?_ _ | refine blk_drew ?_ | refine blk_alloc ?_ _)); refine blk_put (cs := #[.int .i64 a0_0, .int .i64 a0_1, .int .i64 a0_2, .int .i64 a0_3, .int .i64 a0_4, .int .i64 0]) ?_ 5 _ rfl; (with_reducible repeat (first | refine blk_drewN ?_ _ | refine blk_drew ?_ | refine blk_alloc ?_ _)); refine blk_put (cs := #[.int .i64 a0_0, .int .i64 a0_1, .int .i64 a0_2, .int .i64 a0_3, .int .i64 0, .int .i64 0]) ?_ 4 _ rfl; (with_reducible repeat (first | refine blk_drewN ?_ _ | refine blk_drew ?_ | refine blk_alloc ?_ _)); refine blk_put (cs := #[.int .i64 a0_0, .int .i64 a0_1, .int .i64 a0_2, .int .i64 0, .int .i64 0, .int .i64 0]) ?_ 3 _ rfl; (with_reducible repeat (first | refine blk_drewN ?_ _ | refine blk_drew ?_ | refine blk_alloc ?_ _)); refine blk_put (cs := #[.int .i64 a0_0, .int .i64 a0_1, .int .i64 0, .int .i64 0, .int .i64 0, .int .i64 0]) ?_ 2 _ rfl; (with_reducible repeat (first | refine blk_drewN ?_ _ | refine blk_drew ?_ | refine blk_alloc ?_ _)); refine blk_put (cs := #[.int .i64 a0_0, .int .i64 0, .int .i64 0, .int .i64 0, .int .i64 0, .int .i64 0]) ?_ 1 _ rfl; (with_reducible repeat (first | refine blk_drewN ?_ _ | refine blk_drew ?_ | refine blk_alloc ?_ _)); refine blk_put (cs := #[.int .i64 0, .int .i64 0, .int .i64 0, .int .i64 0, .int .i64 0, .int .i64 0]) ?_ 0 _ rfl; (with_reducible repeat (first | refine blk_drewN ?_ _ | refine blk_drew ?_ | refine blk_alloc ?_ _)); exact BK2.out⟩, ⟨bq_⟩⟩
 case round =>
  clear H' hcz1_0 hcz2_0 hcz2_1 hcz2_2 hcz2_3 hcz2_4 hcz2_5 hfz2_0 hfz2_1 hfz2_2 hfz2_3 hfz2_4 hfz2_5 hnb hnc BK1 BK2 HB
  obtain ⟨x, y1, y2, y3, y4, y5, rfl, HA, HK1, BK1, BK2, HB⟩ := hrel
  cases gk with
  | zero => exact absurd HA.out (by simp [impl_Step_valid.l0])
  | succ k1 =>
   have H := HA.out
   clear HA
   simp only [impl_Step_valid.l0] at H
   by_cases c4 : x < (b.size : Int)
   ·rw [if_pos c4] at H
    by_cases c5 : 0 ≤ x
    ·rw [if_pos c5] at H
     obtain ⟨⟨q1, q2⟩, A70, H⟩ := Option.bind_eq_some_iff.mp H
     have A7 := am_ A70
     obtain ⟨t, A80, H⟩ := Option.bind_eq_some_iff.mp H
     have A8 := am_ A80
     clear A70 A80
     have hx101 := bt_at b x
     have p101 := eq_true c5
     have q101 := eq_true c4
     clear c4 c5
     have hcz1_0 := cq_ BK1.out 0 (.int .i64 a0_0)
     have hcz1_1 := cq_ BK1.out 1 (.int .i64 a0_1)
     have hcz1_2 := cq_ BK1.out 2 (.int .i64 a0_2)
     have hcz1_3 := cq_ BK1.out 3 (.int .i64 a0_3)
     have hcz1_4 := cq_ BK1.out 4 (.int .i64 a0_4)
     have hcz1_5 := cq_ BK1.out 5 (.int .i64 a0_5)
     by_cases c8 : t = true
     ·subst c8
      rw [if_pos rfl] at H
      have H' := am_ H
      clear H
      go_wp2_with (first | (go_at_call 86; refine (impl_fields.calls k a0_0 b _ AF.out).mono ?_; rintro e w' ⟨rfl, ⟨nd, rfl⟩⟩) | (go_at_call 87; refine (impl_Step_ranges.calls k1 a0_0 a0_1 a0_2 a0_3 a0_4 a0_5 (bt b x) q1 q2 _ A7.out).mono ?_; rintro e w3 ⟨rfl, hb⟩; replace BK1 := bb_ BK1 hb; replace BK2 := bb_ BK2 hb; replace HB := bs_ hb; clear hb hcz1_0 hcz1_1 hcz1_2 hcz1_3 hcz1_4 hcz1_5; have hcl1 := impl_Step_valid.at_ BK1.out (bt b x); have hcl2 := impl_Step_valid.at_ BK2.out (bt b x); have hfz2 := blk_frozen BK2.out (impl_Step_valid.offs (bt b x))) | (go_at_call 88; refine (impl_Step_valid.field_calls _ (bt b x) _).mono ?_; rintro e w' ⟨rfl, ⟨nd, rfl⟩⟩) | (go_at_call 70; refine (impl_in.calls _ q1 q2 true _ A8.out).mono ?_; rintro e w' ⟨rfl, ⟨nd, rfl⟩⟩))
      go_roundg k1
      case measure => have := HK1.out; omega
      case rel => exact ⟨(wrap64 (x + 1)), _, _, _, _, _, y14_, H', ⟨by have := HK1.out; omega⟩, ⟨by (with_reducible repeat (first | refine blk_drewN ?_ _ | refine blk_drew ?_ | refine blk_alloc ?_ _ | refine blk_far ?_ NB12.out _)); exact BK1.out⟩, ⟨by (with_reducible repeat (first | refine blk_drewN ?_ _ | refine blk_drew ?_ | refine blk_alloc ?_ _)); exact impl_Step_valid.put_ (bk_ BK2.out) (bt b x)⟩, ⟨bq_⟩⟩
     ·replace c8 := Bool.eq_false_iff.mpr c8
      subst c8
      rw [if_neg (by simp)] at H
      obtain rfl := Option.some.inj H
      clear H
      go_wp2_with (first | (go_at_call 86; refine (impl_fields.calls k a0_0 b _ AF.out).mono ?_; rintro e w' ⟨rfl, ⟨nd, rfl⟩⟩) | (go_at_call 87; refine (impl_Step_ranges.calls k1 a0_0 a0_1 a0_2 a0_3 a0_4 a0_5 (bt b x) q1 q2 _ A7.out).mono ?_; rintro e w3 ⟨rfl, hb⟩; replace BK1 := bb_ BK1 hb; replace BK2 := bb_ BK2 hb; replace HB := bs_ hb; clear hb hcz1_0 hcz1_1 hcz1_2 hcz1_3 hcz1_4 hcz1_5; have hcl1 := impl_Step_valid.at_ BK1.out (bt b x); have hcl2 := impl_Step_valid.at_ BK2.out (bt b x); have hfz2 := blk_frozen BK2.out (impl_Step_valid.offs (bt b x))) | (go_at_call 88; refine (impl_Step_valid.field_calls _ (bt b x) _).mono ?_; rintro e w' ⟨rfl, ⟨nd, rfl⟩⟩) | (go_at_call 70; refine (impl_in.calls _ q1 q2 false _ A8.out).mono ?_; rintro e w' ⟨rfl, ⟨nd, rfl⟩⟩))
      go_ret
      exact ⟨by first | rfl | (simp; done) | (simp [*]; done), bq_⟩
    ·rw [if_neg c5] at H
     exact absurd H (by simp)
   ·rw [if_neg c4] at H
    obtain ⟨t, A80, H⟩ := Option.bind_eq_some_iff.mp H
    have A8 := am_ A80
    clear A80
    have c4b0 : decide (x < (b.size : Int)) = false := decide_eq_false c4
    clear c4
    have hcz1_0 := cq_ BK1.out 0 (.int .i64 a0_0)
    have hcz2_0 := cq_ BK2.out 0 (.int .i64 0)
    have hcz2_1 := cq_ BK2.out 1 (.int .i64 y1)
    have hcz2_2 := cq_ BK2.out 2 (.int .i64 y2)
    have hcz2_3 := cq_ BK2.out 3 (.int .i64 y3)
    have hcz2_4 := cq_ BK2.out 4 (.int .i64 y4)
    have hcz2_5 := cq_ BK2.out 5 (.int .i64 y5)
    by_cases c8 : t = true
    ·subst c8
     rw [if_pos rfl] at H
     obtain rfl := Option.some.inj H
     clear H
     go_wp2_with (first | (go_at_call 70; refine (impl_in.calls a0_0 1 11 true _ A8.out).mono ?_; rintro e w' ⟨rfl, ⟨nd, rfl⟩⟩))
     go_ret
     exact ⟨by first | rfl | (simp; done) | (simp [*]; done), bq_⟩
    ·replace c8 := Bool.eq_false_iff.mpr c8
     subst c8
     rw [if_neg (by simp)] at H
     obtain rfl := Option.some.inj H
     clear H
     go_wp2_with (first | (go_at_call 70; refine (impl_in.calls a0_0 1 11 false _ A8.out).mono ?_; rintro e w' ⟨rfl, ⟨nd, rfl⟩⟩))
     go_ret
     exact ⟨by first | rfl | (simp; done) | (simp [*]; done), bq_⟩
end
mutual
def impl_GoodProgram.j0 : Nat → List (S51) → Bool → Option (Bool)
 | 0, _, _ => none
 | k + 1, x0, x18 => if x18 = true then (some false) else (impl_GoodProgram.l0 k x0 x0 (x0.length : Int) 0)
def impl_GoodProgram.l0 : Nat → List (S51) → List (S51) → Int → Int → Option (Bool)
 | 0, _, _, _, _ => none
 | k + 1, x0, x19, x20, x21 => if x21 < x20 then (if 0 ≤ x21 then (if x21 < (x19.length : Int) then ((impl_Step_valid.f k ((rd_T51 x19 x21).f0) ((rd_T51 x19 x21).f1) ((rd_T51 x19 x21).f2) ((rd_T51 x19 x21).f3) ((rd_T51 x19 x21).f4) ((rd_T51 x19 x21).f5)).bind fun t204 => (if t204 = true then ((impl_Step_jumps.f ((rd_T51 x19 x21).f0) ((rd_T51 x19 x21).f1) ((rd_T51 x19 x21).f2) ((rd_T51 x19 x21).f3) ((rd_T51 x19 x21).f4) ((rd_T51 x19 x21).f5)).bind fun t205 => (if t205 = true then (if (wrap64 ((wrap64 (x21 + ((rd_T51 x19 x21).f5))) + 1)) ≥ (x0.length : Int) then (some false) else (impl_GoodProgram.l0 k x0 x19 x20 (wrap64 (x21 + 1)))) else (impl_GoodProgram.l0 k x0 x19 x20 (wrap64 (x21 + 1))))) else (some false))) else (none)) else (none)) else (some true)
end
def impl_GoodProgram.f (k : Nat) (l0 : List (S51)) : Option (Bool) := (impl_in.f (l0.length : Int) 1 20).bind fun t200 => (if t200 = true then (if 0 ≤ (wrap64 ((l0.length : Int) - 1)) then (if (wrap64 ((l0.length : Int) - 1)) < (l0.length : Int) then (impl_GoodProgram.j0 k l0 (((rd_T51 l0 (wrap64 ((l0.length : Int) - 1))).f0) != 11)) else (none)) else (none)) else (impl_GoodProgram.j0 k l0 true))
set_option maxHeartbeats 8000000 in
set_option maxRecDepth 100000 in
theorem impl_GoodProgram.calls (k : Nat) (A0 : Option Addr) (c0 : Nat) (l0 : List (S51)) (r : Bool) (w : World) (hr0 : Kd.C k51 w A0 l0.length l0) (hc0 : l0.length ≤ c0) (h : impl_GoodProgram.f k l0 = some r) :
  Calls Try.prog 49 #[.slice A0 l0.length c0] w fun e w' => e = .returned (.bool r) ∧ Below w.heap.size w w' := by
 have hu51 := Try.underlying51
 have HR0 := am_ hr0
 have HC0 := am_ hc0
 clear hr0 hc0
 have HB := am_ (Below.refl w.heap.size w)
 have H : ((impl_in.f (l0.length : Int) 1 20).bind fun t200 => (if t200 = true then (if 0 ≤ (wrap64 ((l0.length : Int) - 1)) then (if (wrap64 ((l0.length : Int) - 1)) < (l0.length : Int) then (impl_GoodProgram.j0 k l0 (((rd_T51 l0 (wrap64 ((l0.length : Int) - 1))).f0) != 11)) else (none)) else (none)) else (impl_GoodProgram.j0 k l0 true))) = some r := h
 clear h
 have HC2 := am_ H
 clear H
 go_enter Try.func49, Try.ntmps49
 go_upto_region 1 with (fail)
 go_cut [18] (fun v18 wc => ∃ (kq : Nat) (x18_1 : Bool), v18 = .bool x18_1 ∧ Aside0 (impl_GoodProgram.j0 kq l0 x18_1 = some r) ∧ Aside0 (kq ≤ k) ∧ Aside0 (Below w.heap.size w wc))
 case first =>
  have H := HC2.out
  clear HC2
  replace H := Option.bind_eq_some_iff.mp H
  obtain ⟨t200, A30, H⟩ := H
  replace H : (if t200 = true then (if 0 ≤ (wrap64 ((l0.length : Int) - 1)) then (if (wrap64 ((l0.length : Int) - 1)) < (l0.length : Int) then (impl_GoodProgram.j0 k l0 (((rd_T51 l0 (wrap64 ((l0.length : Int) - 1))).f0) != 11)) else (none)) else (none)) else (impl_GoodProgram.j0 k l0 true)) = some r := H
  have A3 := am_ A30
  clear A30
  by_cases c4 : t200 = true
  ·subst c4
   have H1 : (if 0 ≤ (wrap64 ((l0.length : Int) - 1)) then (if (wrap64 ((l0.length : Int) - 1)) < (l0.length : Int) then (impl_GoodProgram.j0 k l0 (((rd_T51 l0 (wrap64 ((l0.length : Int) - 1))).f0) != 11)) else (none)) else (none)) = some r := by rw [if_pos rfl] at H; exact H
   clear H
   have H := H1
   clear H1
   obtain ⟨ji5, hji5⟩ : ∃ j_ : Int, (wrap64 ((l0.length : Int) - 1)) = j_ := ⟨_, rfl⟩
   replace H : (if 0 ≤ (ji5) then (if (ji5) < (l0.length : Int) then (impl_GoodProgram.j0 k l0 (((rd_T51 l0 (ji5)).f0) != 11)) else (none)) else (none)) = some r := by first | (rw [hji5] at H; exact H) | (simp only [hji5] at H ⊢; exact H)
   (try rw [hji5] at A3)
   have hji5w : (IntKind.i64.wrap ((l0.length : Int) - 1)) = ji5 := (i64_w _).trans hji5
   by_cases c6 : 0 ≤ (ji5)
   ·rw [if_pos c6] at H
    have c6b0 : decide (0 ≤ (ji5)) = true := decide_eq_true c6
    clear c6
    (first | rw [c6b0] | (simp only [i64_w, i32_w]; rw [c6b0]) | skip)
    by_cases c7 : (ji5) < (l0.length : Int)
    ·rw [if_pos c7] at H
     have c7b0 : decide ((ji5) < (l0.length : Int)) = true := decide_eq_true c7
     clear c7
     have H' := am_ H
     clear H
     go_wp2_with (first | ((with_reducible refine gl_ 70 rfl ?_); refine goesM_ (some 7) Try.func70 #[.int .i64 (l0.length : Int), .int .i64 1, .int .i64 20] ?_; (with_reducible refine (impl_in.calls (l0.length : Int) 1 20 true _ A3.out).mono ?_); rintro e w' ⟨rfl, ⟨nd, rfl⟩⟩; refine ⟨_, rfl, ?_⟩; have p201 : 0 ≤ ((ji5) : Int) := od_; have q201 : (ji5) < (l0.length : Int) := od_; obtain ⟨ad201, e201, hx201_0, hx201_1, hx201_2, hx201_3, hx201_4, hx201_5⟩ := at_T51 HR0.out (ji5) p201 q201; cases e201; replace hx201_0 := (HB.out.cell (World.block_lt_of_cell? w _ hx201_0)).trans hx201_0; replace hx201_1 := (HB.out.cell (World.block_lt_of_cell? w _ hx201_1)).trans hx201_1; replace hx201_2 := (HB.out.cell (World.block_lt_of_cell? w _ hx201_2)).trans hx201_2; replace hx201_3 := (HB.out.cell (World.block_lt_of_cell? w _ hx201_3)).trans hx201_3; replace hx201_4 := (HB.out.cell (World.block_lt_of_cell? w _ hx201_4)).trans hx201_4; replace hx201_5 := (HB.out.cell (World.block_lt_of_cell? w _ hx201_5)).trans hx201_5; replace p201 := eq_true p201; replace q201 := eq_true q201))
     go_meet
     case rel => exact ⟨_, ((((rd_T51 l0 (ji5)).f0) != 11)), (by first | rfl | (simp; done) | (simp only [← hji5] <;> (first | rfl | simp)) | (simp [*]; done)), H', ⟨by first | omega | exact Nat.le_refl _⟩, ⟨bq_⟩⟩
    ·rw [if_neg c7] at H
     exact absurd H (by simp)
   ·rw [if_neg c6] at H
    exact absurd H (by simp)
  ·replace c4 := Bool.eq_false_iff.mpr c4
   subst c4
   have H1 : (impl_GoodProgram.j0 k l0 true) = some r := by rw [if_neg (show ¬ (false = true) by decide)] at H; exact H
   clear H
   have H := H1
   clear H1
   have H' := am_ H
   clear H
   go_wp2_with (first | ((with_reducible refine gl_ 70 rfl ?_); refine goesM_ (some 7) Try.func70 #[.int .i64 (l0.length : Int), .int .i64 1, .int .i64 20] ?_; (with_reducible refine (impl_in.calls (l0.length : Int) 1 20 false _ A3.out).mono ?_); rintro e w' ⟨rfl, ⟨nd, rfl⟩⟩; refine ⟨_, rfl, ?_⟩))
   go_meet
   case rel => exact ⟨_, (true), y14_, H', ⟨by first | omega | exact Nat.le_refl _⟩, ⟨bq_⟩⟩
 case rest =>
  clear HC2
  try clear p2
  try clear q2
  try clear hx2
  try clear c4
  try clear c6
  try clear c6b0
  try clear p6
  try clear c7
  try clear c7b0
  try clear hx201_0
  try clear hx201_1
  try clear hx201_2
  try clear hx201_3
  try clear hx201_4
  try clear hx201_5
  try clear p201
  try clear q201
  obtain ⟨kq, x18_1, rfl, HA, HJ1, HB⟩ := hcut
  cases kq with
  | zero => exact absurd HA.out (by simp [impl_GoodProgram.j0])
  | succ kj1 =>
   have H := HA.out
   clear HA
   simp only [impl_GoodProgram.j0] at H
   by_cases c8 : x18_1 = true
   ·subst c8
    have H1 : (some false) = some r := by rw [if_pos rfl] at H; exact H
    clear H
    have H := H1
    clear H1
    obtain rfl := Option.some.inj H
    go_wp2
    go_ret
    exact ⟨by first | rfl | (simp [errW_none, errW_some] <;> rfl) | (simp [*, errW_none, errW_some] <;> rfl), bq_⟩
   ·replace c8 := Bool.eq_false_iff.mpr c8
    subst c8
    have H1 : (impl_GoodProgram.l0 kj1 l0 l0 (l0.length : Int) 0) = some r := by rw [if_neg (show ¬ (false = true) by decide)] at H; exact H
    clear H
    have H := H1
    clear H1
    have H' := am_ H
    clear H
    go_wp2
    go_loopg [21] kj1 (fun kq v21 w' => ∃ (x21_2 : Int), v21 = .int .i64 x21_2 ∧ Aside0 (impl_GoodProgram.l0 kq l0 l0 (l0.length : Int) x21_2 = some r) ∧ Aside0 (kq ≤ kj1) ∧ Aside0 (Below w.heap.size w w'))
    case atStart => exact ⟨(0), y14_, H', ⟨Nat.le_refl _⟩, ⟨bq_⟩⟩
    case round =>
     clear H'
     try clear p2
     try clear q2
     try clear hx2
     try clear c4
     try clear c6
     try clear c6b0
     try clear p6
     try clear c7
     try clear c7b0
     try clear c8
     try clear hx201_0
     try clear hx201_1
     try clear hx201_2
     try clear hx201_3
     try clear hx201_4
     try clear hx201_5
     try clear p2
     try clear p201
     try clear p6
     try clear q2
     try clear q201
     obtain ⟨x21_2, rfl, HA, HK2, HB⟩ := hrel
     cases gk with
     | zero => exact absurd HA.out (by simp [impl_GoodProgram.l0])
     | succ k2 =>
      have H := HA.out
      clear HA
      simp only [impl_GoodProgram.l0] at H
      by_cases c9 : x21_2 < (l0.length : Int)
      ·rw [if_pos c9] at H
       have c9b0 : decide (x21_2 < (l0.length : Int)) = true := decide_eq_true c9
       clear c9
       by_cases c10 : 0 ≤ x21_2
       ·rw [if_pos c10] at H
        have c10b0 : decide (0 ≤ x21_2) = true := decide_eq_true c10
        clear c10
        by_cases c11 : x21_2 < (l0.length : Int)
        ·rw [if_pos c11] at H
         have c11b0 : decide (x21_2 < (l0.length : Int)) = true := decide_eq_true c11
         clear c11
         replace H := Option.bind_eq_some_iff.mp H
         obtain ⟨t204, A120, H⟩ := H
         replace H : (if t204 = true then ((impl_Step_jumps.f ((rd_T51 l0 x21_2).f0) ((rd_T51 l0 x21_2).f1) ((rd_T51 l0 x21_2).f2) ((rd_T51 l0 x21_2).f3) ((rd_T51 l0 x21_2).f4) ((rd_T51 l0 x21_2).f5)).bind fun t205 => (if t205 = true then (if (wrap64 ((wrap64 (x21_2 + ((rd_T51 l0 x21_2).f5))) + 1)) ≥ (l0.length : Int) then (some false) else (impl_GoodProgram.l0 k2 l0 l0 (l0.length : Int) (wrap64 (x21_2 + 1)))) else (impl_GoodProgram.l0 k2 l0 l0 (l0.length : Int) (wrap64 (x21_2 + 1))))) else (some false)) = some r := H
         have A12 := am_ A120
         clear A120
         by_cases c13 : t204 = true
         ·subst c13
          have H1 : ((impl_Step_jumps.f ((rd_T51 l0 x21_2).f0) ((rd_T51 l0 x21_2).f1) ((rd_T51 l0 x21_2).f2) ((rd_T51 l0 x21_2).f3) ((rd_T51 l0 x21_2).f4) ((rd_T51 l0 x21_2).f5)).bind fun t205 => (if t205 = true then (if (wrap64 ((wrap64 (x21_2 + ((rd_T51 l0 x21_2).f5))) + 1)) ≥ (l0.length : Int) then (some false) else (impl_GoodProgram.l0 k2 l0 l0 (l0.length : Int) (wrap64 (x21_2 + 1)))) else (impl_GoodProgram.l0 k2 l0 l0 (l0.length : Int) (wrap64 (x21_2 + 1))))) = some r := by rw [if_pos rfl] at H; exact H
          clear H
          have H := H1
          clear H1
          replace H := Option.bind_eq_some_iff.mp H
          obtain ⟨t205, A140, H⟩ := H
          replace H : (if t205 = true then (if (wrap64 ((wrap64 (x21_2 + ((rd_T51 l0 x21_2).f5))) + 1)) ≥ (l0.length : Int) then (some false) else (impl_GoodProgram.l0 k2 l0 l0 (l0.length : Int) (wrap64 (x21_2 + 1)))) else (impl_GoodProgram.l0 k2 l0 l0 (l0.length : Int) (wrap64 (x21_2 + 1)))) = some r := H
          have A14 := am_ A140
          clear A140
          by_cases c15 : t205 = true
          ·subst c15
           have H1 : (if (wrap64 ((wrap64 (x21_2 + ((rd_T51 l0 x21_2).f5))) + 1)) ≥ (l0.length : Int) then (some false) else (impl_GoodProgram.l0 k2 l0 l0 (l0.length : Int) (wrap64 (x21_2 + 1)))) = some r := by rw [if_pos rfl] at H; exact H
           clear H
           have H := H1
           clear H1
           by_cases c16 : (wrap64 ((wrap64 (x21_2 + ((rd_T51 l0 x21_2).f5))) + 1)) ≥ (l0.length : Int)
           ·rw [if_pos c16] at H
            have c16b0 : decide ((l0.length : Int) ≤ (wrap64 ((wrap64 (x21_2 + ((rd_T51 l0 x21_2).f5))) + 1))) = true := decide_eq_true c16
            clear c16
            obtain rfl := Option.some.inj H
            have p202 : 0 ≤ (x21_2 : Int) := od_
            have q202 : x21_2 < (l0.length : Int) := od_
            obtain ⟨ad202, e202, hx202_0, hx202_1, hx202_2, hx202_3, hx202_4, hx202_5⟩ := at_T51 HR0.out x21_2 p202 q202
            cases e202
            replace hx202_0 := (HB.out.cell (World.block_lt_of_cell? w _ hx202_0)).trans hx202_0
            replace hx202_1 := (HB.out.cell (World.block_lt_of_cell? w _ hx202_1)).trans hx202_1
            replace hx202_2 := (HB.out.cell (World.block_lt_of_cell? w _ hx202_2)).trans hx202_2
            replace hx202_3 := (HB.out.cell (World.block_lt_of_cell? w _ hx202_3)).trans hx202_3
            replace hx202_4 := (HB.out.cell (World.block_lt_of_cell? w _ hx202_4)).trans hx202_4
            replace hx202_5 := (HB.out.cell (World.block_lt_of_cell? w _ hx202_5)).trans hx202_5
            replace p202 := eq_true p202
            replace q202 := eq_true q202
            go_wp2_with (first | ((with_reducible refine gate_dst (N := 4) rfl ?_); (try (refine gate_guard (by rfl) ?_; dsimp only)); refine boxq_ (N := 4) (cs := #[.int .i64 0, .int .i64 0, .int .i64 0, .int .i64 0, .int .i64 0, .int .i64 0]) (t := 51) ?_; intro gb203 hg w17 hbox hb; have BK203 := am_ (hbox); have GW203 := gz_ hg; have GE203 := gz_ hg; replace HB := bs_ hb; clear hb hbox hg; have hcz18_0 := cq_ BK203.out 0 (.int .i64 0); have hcz18_1 := cq_ BK203.out 1 (.int .i64 0); have hcz18_2 := cq_ BK203.out 2 (.int .i64 0); have hcz18_3 := cq_ BK203.out 3 (.int .i64 0); have hcz18_4 := cq_ BK203.out 4 (.int .i64 0); have hcz18_5 := cq_ BK203.out 5 (.int .i64 0); have hfz18_0 := blk_frozen BK203.out 0; have hfz18_1 := blk_frozen BK203.out 1; have hfz18_2 := blk_frozen BK203.out 2; have hfz18_3 := blk_frozen BK203.out 3; have hfz18_4 := blk_frozen BK203.out 4; have hfz18_5 := blk_frozen BK203.out 5) | ((with_reducible refine gl_ 73 rfl ?_); refine goesM_ (some 27) Try.func73 #[.agg #[.int .i64 ((rd_T51 l0 x21_2).f0), .int .i64 ((rd_T51 l0 x21_2).f1), .int .i64 ((rd_T51 l0 x21_2).f2), .int .i64 ((rd_T51 l0 x21_2).f3), .int .i64 ((rd_T51 l0 x21_2).f4), .int .i64 ((rd_T51 l0 x21_2).f5)]] ?_; (with_reducible refine (impl_Step_valid.calls k2 ((rd_T51 l0 x21_2).f0) ((rd_T51 l0 x21_2).f1) ((rd_T51 l0 x21_2).f2) ((rd_T51 l0 x21_2).f3) ((rd_T51 l0 x21_2).f4) ((rd_T51 l0 x21_2).f5) true _ A12.out).mono ?_); rintro e w19 ⟨rfl, hb⟩; refine ⟨_, rfl, ?_⟩; replace BK203 := am_ (blk_below (bu_ BK203.out) hb); replace HB := bs_ hb; (try clear hb); have hcz20_0 := cq_ BK203.out 0 (.int .i64 ((rd_T51 l0 x21_2).f0)); have hcz20_1 := cq_ BK203.out 1 (.int .i64 ((rd_T51 l0 x21_2).f1)); have hcz20_2 := cq_ BK203.out 2 (.int .i64 ((rd_T51 l0 x21_2).f2)); have hcz20_3 := cq_ BK203.out 3 (.int .i64 ((rd_T51 l0 x21_2).f3)); have hcz20_4 := cq_ BK203.out 4 (.int .i64 ((rd_T51 l0 x21_2).f4)); have hcz20_5 := cq_ BK203.out 5 (.int .i64 ((rd_T51 l0 x21_2).f5)); have hfz20_0 := blk_frozen BK203.out 0; have hfz20_1 := blk_frozen BK203.out 1; have hfz20_2 := blk_frozen BK203.out 2; have hfz20_3 := blk_frozen BK203.out 3; have hfz20_4 := blk_frozen BK203.out 4; have hfz20_5 := blk_frozen BK203.out 5) | (go_at_call 56; (with_reducible refine (impl_Step_jumps.calls ((rd_T51 l0 x21_2).f0) ((rd_T51 l0 x21_2).f1) ((rd_T51 l0 x21_2).f2) ((rd_T51 l0 x21_2).f3) ((rd_T51 l0 x21_2).f4) ((rd_T51 l0 x21_2).f5) true _ A14.out).mono ?_); rintro e w21 ⟨rfl, hb⟩; replace BK203 := bb_ BK203 hb; replace HB := bs_ hb; (try clear hb); have hcz22_0 := cq_ BK203.out 0 (.int .i64 ((rd_T51 l0 x21_2).f0)); have hcz22_1 := cq_ BK203.out 1 (.int .i64 ((rd_T51 l0 x21_2).f1)); have hcz22_2 := cq_ BK203.out 2 (.int .i64 ((rd_T51 l0 x21_2).f2)); have hcz22_3 := cq_ BK203.out 3 (.int .i64 ((rd_T51 l0 x21_2).f3)); have hcz22_4 := cq_ BK203.out 4 (.int .i64 ((rd_T51 l0 x21_2).f4)); have hcz22_5 := cq_ BK203.out 5 (.int .i64 ((rd_T51 l0 x21_2).f5)); have hfz22_0 := blk_frozen BK203.out 0; have hfz22_1 := blk_frozen BK203.out 1; have hfz22_2 := blk_frozen BK203.out 2; have hfz22_3 := blk_frozen BK203.out 3; have hfz22_4 := blk_frozen BK203.out 4; have hfz22_5 := blk_frozen BK203.out 5))
            go_ret
            exact ⟨by first | rfl | (simp [errW_none, errW_some] <;> rfl) | (simp [*, errW_none, errW_some] <;> rfl), bq_⟩
           ·rw [if_neg c16] at H
            have c16b0 : decide ((l0.length : Int) ≤ (wrap64 ((wrap64 (x21_2 + ((rd_T51 l0 x21_2).f5))) + 1))) = false := decide_eq_false c16
            clear c16
            have H' := am_ H
            clear H
            have p202 : 0 ≤ (x21_2 : Int) := od_
            have q202 : x21_2 < (l0.length : Int) := od_
            obtain ⟨ad202, e202, hx202_0, hx202_1, hx202_2, hx202_3, hx202_4, hx202_5⟩ := at_T51 HR0.out x21_2 p202 q202
            cases e202
            replace hx202_0 := (HB.out.cell (World.block_lt_of_cell? w _ hx202_0)).trans hx202_0
            replace hx202_1 := (HB.out.cell (World.block_lt_of_cell? w _ hx202_1)).trans hx202_1
            replace hx202_2 := (HB.out.cell (World.block_lt_of_cell? w _ hx202_2)).trans hx202_2
            replace hx202_3 := (HB.out.cell (World.block_lt_of_cell? w _ hx202_3)).trans hx202_3
            replace hx202_4 := (HB.out.cell (World.block_lt_of_cell? w _ hx202_4)).trans hx202_4
            replace hx202_5 := (HB.out.cell (World.block_lt_of_cell? w _ hx202_5)).trans hx202_5
            replace p202 := eq_true p202
            replace q202 := eq_true q202
            go_wp2_with (first | ((with_reducible refine gate_dst (N := 4) rfl ?_); (try (refine gate_guard (by rfl) ?_; dsimp only)); refine boxq_ (N := 4) (cs := #[.int .i64 0, .int .i64 0, .int .i64 0, .int .i64 0, .int .i64 0, .int .i64 0]) (t := 51) ?_; intro gb203 hg w23 hbox hb; have BK203 := am_ (hbox); have GW203 := gz_ hg; have GE203 := gz_ hg; replace HB := bs_ hb; clear hb hbox hg; have hcz24_0 := cq_ BK203.out 0 (.int .i64 0); have hcz24_1 := cq_ BK203.out 1 (.int .i64 0); have hcz24_2 := cq_ BK203.out 2 (.int .i64 0); have hcz24_3 := cq_ BK203.out 3 (.int .i64 0); have hcz24_4 := cq_ BK203.out 4 (.int .i64 0); have hcz24_5 := cq_ BK203.out 5 (.int .i64 0); have hfz24_0 := blk_frozen BK203.out 0; have hfz24_1 := blk_frozen BK203.out 1; have hfz24_2 := blk_frozen BK203.out 2; have hfz24_3 := blk_frozen BK203.out 3; have hfz24_4 := blk_frozen BK203.out 4; have hfz24_5 := blk_frozen BK203.out 5) | ((with_reducible refine gl_ 73 rfl ?_); refine goesM_ (some 27) Try.func73 #[.agg #[.int .i64 ((rd_T51 l0 x21_2).f0), .int .i64 ((rd_T51 l0 x21_2).f1), .int .i64 ((rd_T51 l0 x21_2).f2), .int .i64 ((rd_T51 l0 x21_2).f3), .int .i64 ((rd_T51 l0 x21_2).f4), .int .i64 ((rd_T51 l0 x21_2).f5)]] ?_; (with_reducible refine (impl_Step_valid.calls k2 ((rd_T51 l0 x21_2).f0) ((rd_T51 l0 x21_2).f1) ((rd_T51 l0 x21_2).f2) ((rd_T51 l0 x21_2).f3) ((rd_T51 l0 x21_2).f4) ((rd_T51 l0 x21_2).f5) true _ A12.out).mono ?_); rintro e w25 ⟨rfl, hb⟩; refine ⟨_, rfl, ?_⟩; replace BK203 := am_ (blk_below (bu_ BK203.out) hb); replace HB := bs_ hb; (try clear hb); have hcz26_0 := cq_ BK203.out 0 (.int .i64 ((rd_T51 l0 x21_2).f0)); have hcz26_1 := cq_ BK203.out 1 (.int .i64 ((rd_T51 l0 x21_2).f1)); have hcz26_2 := cq_ BK203.out 2 (.int .i64 ((rd_T51 l0 x21_2).f2)); have hcz26_3 := cq_ BK203.out 3 (.int .i64 ((rd_T51 l0 x21_2).f3)); have hcz26_4 := cq_ BK203.out 4 (.int .i64 ((rd_T51 l0 x21_2).f4)); have hcz26_5 := cq_ BK203.out 5 (.int .i64 ((rd_T51 l0 x21_2).f5)); have hfz26_0 := blk_frozen BK203.out 0; have hfz26_1 := blk_frozen BK203.out 1; have hfz26_2 := blk_frozen BK203.out 2; have hfz26_3 := blk_frozen BK203.out 3; have hfz26_4 := blk_frozen BK203.out 4; have hfz26_5 := blk_frozen BK203.out 5) | (go_at_call 56; (with_reducible refine (impl_Step_jumps.calls ((rd_T51 l0 x21_2).f0) ((rd_T51 l0 x21_2).f1) ((rd_T51 l0 x21_2).f2) ((rd_T51 l0 x21_2).f3) ((rd_T51 l0 x21_2).f4) ((rd_T51 l0 x21_2).f5) true _ A14.out).mono ?_); rintro e w27 ⟨rfl, hb⟩; replace BK203 := bb_ BK203 hb; replace HB := bs_ hb; (try clear hb); have hcz28_0 := cq_ BK203.out 0 (.int .i64 ((rd_T51 l0 x21_2).f0)); have hcz28_1 := cq_ BK203.out 1 (.int .i64 ((rd_T51 l0 x21_2).f1)); have hcz28_2 := cq_ BK203.out 2 (.int .i64 ((rd_T51 l0 x21_2).f2)); have hcz28_3 := cq_ BK203.out 3 (.int .i64 ((rd_T51 l0 x21_2).f3)); have hcz28_4 := cq_ BK203.out 4 (.int .i64 ((rd_T51 l0 x21_2).f4)); have hcz28_5 := cq_ BK203.out 5 (.int .i64 ((rd_T51 l0 x21_2).f5)); have hfz28_0 := blk_frozen BK203.out 0; have hfz28_1 := blk_frozen BK203.out 1; have hfz28_2 := blk_frozen BK203.out 2; have hfz28_3 := blk_frozen BK203.out 3; have hfz28_4 := blk_frozen BK203.out 4; have hfz28_5 := blk_frozen BK203.out 5))
            go_roundg k2
            case measure => have := HJ1.out; have := HK2.out; omega
            case rel => exact ⟨(wrap64 (x21_2 + 1)), y14_, H', ⟨by have := HJ1.out; have := HK2.out; omega⟩, ⟨bq_⟩⟩
          ·replace c15 := Bool.eq_false_iff.mpr c15
           subst c15
           have H1 : (impl_GoodProgram.l0 k2 l0 l0 (l0.length : Int) (wrap64 (x21_2 + 1))) = some r := by rw [if_neg (show ¬ (false = true) by decide)] at H; exact H
           clear H
           have H := H1
           clear H1
           have H' := am_ H
           clear H
           have p202 : 0 ≤ (x21_2 : Int) := od_
           have q202 : x21_2 < (l0.length : Int) := od_
           obtain ⟨ad202, e202, hx202_0, hx202_1, hx202_2, hx202_3, hx202_4, hx202_5⟩ := at_T51 HR0.out x21_2 p202 q202
           cases e202
           replace hx202_0 := (HB.out.cell (World.block_lt_of_cell? w _ hx202_0)).trans hx202_0
           replace hx202_1 := (HB.out.cell (World.block_lt_of_cell? w _ hx202_1)).trans hx202_1
           replace hx202_2 := (HB.out.cell (World.block_lt_of_cell? w _ hx202_2)).trans hx202_2
           replace hx202_3 := (HB.out.cell (World.block_lt_of_cell? w _ hx202_3)).trans hx202_3
           replace hx202_4 := (HB.out.cell (World.block_lt_of_cell? w _ hx202_4)).trans hx202_4
           replace hx202_5 := (HB.out.cell (World.block_lt_of_cell? w _ hx202_5)).trans hx202_5
           replace p202 := eq_true p202
           replace q202 := eq_true q202
           go_wp2_with (first | ((with_reducible refine gate_dst (N := 4) rfl ?_); (try (refine gate_guard (by rfl) ?_; dsimp only)); refine boxq_ (N := 4) (cs := #[.int .i64 0, .int .i64 0, .int .i64 0, .int .i64 0, .int .i64 0, .int .i64 0]) (t := 51) ?_; intro gb203 hg w29 hbox hb; have BK203 := am_ (hbox); have GW203 := gz_ hg; have GE203 := gz_ hg; replace HB := bs_ hb; clear hb hbox hg; have hcz30_0 := cq_ BK203.out 0 (.int .i64 0); have hcz30_1 := cq_ BK203.out 1 (.int .i64 0); have hcz30_2 := cq_ BK203.out 2 (.int .i64 0); have hcz30_3 := cq_ BK203.out 3 (.int .i64 0); have hcz30_4 := cq_ BK203.out 4 (.int .i64 0); have hcz30_5 := cq_ BK203.out 5 (.int .i64 0); have hfz30_0 := blk_frozen BK203.out 0; have hfz30_1 := blk_frozen BK203.out 1; have hfz30_2 := blk_frozen BK203.out 2; have hfz30_3 := blk_frozen BK203.out 3; have hfz30_4 := blk_frozen BK203.out 4; have hfz30_5 := blk_frozen BK203.out 5) | ((with_reducible refine gl_ 73 rfl ?_); refine goesM_ (some 27) Try.func73 #[.agg #[.int .i64 ((rd_T51 l0 x21_2).f0), .int .i64 ((rd_T51 l0 x21_2).f1), .int .i64 ((rd_T51 l0 x21_2).f2), .int .i64 ((rd_T51 l0 x21_2).f3), .int .i64 ((rd_T51 l0 x21_2).f4), .int .i64 ((rd_T51 l0 x21_2).f5)]] ?_; (with_reducible refine (impl_Step_valid.calls k2 ((rd_T51 l0 x21_2).f0) ((rd_T51 l0 x21_2).f1) ((rd_T51 l0 x21_2).f2) ((rd_T51 l0 x21_2).f3) ((rd_T51 l0 x21_2).f4) ((rd_T51 l0 x21_2).f5) true _ A12.out).mono ?_); rintro e w31 ⟨rfl, hb⟩; refine ⟨_, rfl, ?_⟩; replace BK203 := am_ (blk_below (bu_ BK203.out) hb); replace HB := bs_ hb; (try clear hb); have hcz32_0 := cq_ BK203.out 0 (.int .i64 ((rd_T51 l0 x21_2).f0)); have hcz32_1 := cq_ BK203.out 1 (.int .i64 ((rd_T51 l0 x21_2).f1)); have hcz32_2 := cq_ BK203.out 2 (.int .i64 ((rd_T51 l0 x21_2).f2)); have hcz32_3 := cq_ BK203.out 3 (.int .i64 ((rd_T51 l0 x21_2).f3)); have hcz32_4 := cq_ BK203.out 4 (.int .i64 ((rd_T51 l0 x21_2).f4)); have hcz32_5 := cq_ BK203.out 5 (.int .i64 ((rd_T51 l0 x21_2).f5)); have hfz32_0 := blk_frozen BK203.out 0; have hfz32_1 := blk_frozen BK203.out 1; have hfz32_2 := blk_frozen BK203.out 2; have hfz32_3 := blk_frozen BK203.out 3; have hfz32_4 := blk_frozen BK203.out 4; have hfz32_5 := blk_frozen BK203.out 5) | (go_at_call 56; (with_reducible refine (impl_Step_jumps.calls ((rd_T51 l0 x21_2).f0) ((rd_T51 l0 x21_2).f1) ((rd_T51 l0 x21_2).f2) ((rd_T51 l0 x21_2).f3) ((rd_T51 l0 x21_2).f4) ((rd_T51 l0 x21_2).f5) false _ A14.out).mono ?_); rintro e w33 ⟨rfl, hb⟩; replace BK203 := bb_ BK203 hb; replace HB := bs_ hb; (try clear hb)))
           go_roundg k2
           case measure => have := HJ1.out; have := HK2.out; omega
           case rel => exact ⟨(wrap64 (x21_2 + 1)), y14_, H', ⟨by have := HJ1.out; have := HK2.out; omega⟩, ⟨bq_⟩⟩
         ·replace c13 := Bool.eq_false_iff.mpr c13
          subst c13
          have H1 : (some false) = some r := by rw [if_neg (show ¬ (false = true) by decide)] at H; exact H
          clear H
          have H := H1
          clear H1
          obtain rfl := Option.some.inj H
          have p202 : 0 ≤ (x21_2 : Int) := od_
          have q202 : x21_2 < (l0.length : Int) := od_
          obtain ⟨ad202, e202, hx202_0, hx202_1, hx202_2, hx202_3, hx202_4, hx202_5⟩ := at_T51 HR0.out x21_2 p202 q202
          cases e202
          replace hx202_0 := (HB.out.cell (World.block_lt_of_cell? w _ hx202_0)).trans hx202_0
          replace hx202_1 := (HB.out.cell (World.block_lt_of_cell? w _ hx202_1)).trans hx202_1
          replace hx202_2 := (HB.out.cell (World.block_lt_of_cell? w _ hx202_2)).trans hx202_2
          replace hx202_3 := (HB.out.cell (World.block_lt_of_cell? w _ hx202_3)).trans hx202_3
          replace hx202_4 := (HB.out.cell (World.block_lt_of_cell? w _ hx202_4)).trans hx202_4
          replace hx202_5 := (HB.out.cell (World.block_lt_of_cell? w _ hx202_5)).trans hx202_5
          replace p202 := eq_true p202
          replace q202 := eq_true q202
          go_wp2_with (first | ((with_reducible refine gate_dst (N := 4) rfl ?_); (try (refine gate_guard (by rfl) ?_; dsimp only)); refine boxq_ (N := 4) (cs := #[.int .i64 0, .int .i64 0, .int .i64 0, .int .i64 0, .int .i64 0, .int .i64 0]) (t := 51) ?_; intro gb203 hg w34 hbox hb; have BK203 := am_ (hbox); have GW203 := gz_ hg; have GE203 := gz_ hg; replace HB := bs_ hb; clear hb hbox hg; have hcz35_0 := cq_ BK203.out 0 (.int .i64 0); have hcz35_1 := cq_ BK203.out 1 (.int .i64 0); have hcz35_2 := cq_ BK203.out 2 (.int .i64 0); have hcz35_3 := cq_ BK203.out 3 (.int .i64 0); have hcz35_4 := cq_ BK203.out 4 (.int .i64 0); have hcz35_5 := cq_ BK203.out 5 (.int .i64 0); have hfz35_0 := blk_frozen BK203.out 0; have hfz35_1 := blk_frozen BK203.out 1; have hfz35_2 := blk_frozen BK203.out 2; have hfz35_3 := blk_frozen BK203.out 3; have hfz35_4 := blk_frozen BK203.out 4; have hfz35_5 := blk_frozen BK203.out 5) | ((with_reducible refine gl_ 73 rfl ?_); refine goesM_ (some 27) Try.func73 #[.agg #[.int .i64 ((rd_T51 l0 x21_2).f0), .int .i64 ((rd_T51 l0 x21_2).f1), .int .i64 ((rd_T51 l0 x21_2).f2), .int .i64 ((rd_T51 l0 x21_2).f3), .int .i64 ((rd_T51 l0 x21_2).f4), .int .i64 ((rd_T51 l0 x21_2).f5)]] ?_; (with_reducible refine (impl_Step_valid.calls k2 ((rd_T51 l0 x21_2).f0) ((rd_T51 l0 x21_2).f1) ((rd_T51 l0 x21_2).f2) ((rd_T51 l0 x21_2).f3) ((rd_T51 l0 x21_2).f4) ((rd_T51 l0 x21_2).f5) false _ A12.out).mono ?_); rintro e w36 ⟨rfl, hb⟩; refine ⟨_, rfl, ?_⟩; replace BK203 := am_ (blk_below (bu_ BK203.out) hb); replace HB := bs_ hb; (try clear hb)))
          go_ret
          exact ⟨by first | rfl | (simp [errW_none, errW_some] <;> rfl) | (simp [*, errW_none, errW_some] <;> rfl), bq_⟩
        ·rw [if_neg c11] at H
         exact absurd H (by simp)
       ·rw [if_neg c10] at H
        exact absurd H (by simp)
      ·rw [if_neg c9] at H
       have c9b0 : decide (x21_2 < (l0.length : Int)) = false := decide_eq_false c9
       clear c9
       obtain rfl := Option.some.inj H
       go_wp2
       go_ret
       exact ⟨by first | rfl | (simp [errW_none, errW_some] <;> rfl) | (simp [*, errW_none, errW_some] <;> rfl), bq_⟩
def impl_nexts.f (l0 : List (S51)) (a1 : Int) : Option (List Int) := if 0 ≤ a1 then (if a1 < (l0.length : Int) then (if ((rd_T51 l0 a1).f0) = 11 then (some ([] : List Int)) else (if ((rd_T51 l0 a1).f0) = 8 then (some (([wrap64 ((wrap64 (a1 + ((rd_T51 l0 a1).f5))) + 1)] : List Int))) else (if ((rd_T51 l0 a1).f0) = 9 then (some (([wrap64 (a1 + 1), wrap64 ((wrap64 (a1 + ((rd_T51 l0 a1).f5))) + 1)] : List Int))) else (if ((rd_T51 l0 a1).f0) = 10 then (some (([wrap64 (a1 + 1), wrap64 ((wrap64 (a1 + ((rd_T51 l0 a1).f5))) + 1)] : List Int))) else (some (([wrap64 (a1 + 1)] : List Int))))))) else (none)) else (none)
set_option maxHeartbeats 8000000 in
set_option maxRecDepth 100000 in
theorem impl_nexts.calls (A0 : Option Addr) (c0 : Nat) (l0 : List (S51)) (a1 : Int) (r : List Int) (w : World) (hr0 : Kd.C k51 w A0 l0.length l0) (hc0 : l0.length ≤ c0) (h : impl_nexts.f l0 a1 = some r) :
  Calls Try.prog 61 #[.slice A0 l0.length c0, .int .i64 a1] w fun e w' => ∃ v0_ : Value, e = .returned (v0_) ∧ Kd.R (Kd.int .i64) 3 w' w.heap.size (fun _ => True) v0_ r ∧ Below w.heap.size w w' := by
 have hu51 := Try.underlying51
 have HR0 := am_ hr0
 have HC0 := am_ hc0
 clear hr0 hc0
 have HB := am_ (Below.refl w.heap.size w)
 have H : (if 0 ≤ a1 then (if a1 < (l0.length : Int) then (if ((rd_T51 l0 a1).f0) = 11 then (some ([] : List Int)) else (if ((rd_T51 l0 a1).f0) = 8 then (some (([wrap64 ((wrap64 (a1 + ((rd_T51 l0 a1).f5))) + 1)] : List Int))) else (if ((rd_T51 l0 a1).f0) = 9 then (some (([wrap64 (a1 + 1), wrap64 ((wrap64 (a1 + ((rd_T51 l0 a1).f5))) + 1)] : List Int))) else (if ((rd_T51 l0 a1).f0) = 10 then (some (([wrap64 (a1 + 1), wrap64 ((wrap64 (a1 + ((rd_T51 l0 a1).f5))) + 1)] : List Int))) else (some (([wrap64 (a1 + 1)] : List Int))))))) else (none)) else (none)) = some r := h
 clear h
 by_cases c3 : 0 ≤ a1
 ·rw [if_pos c3] at H
  have c3b0 : decide (0 ≤ a1) = true := decide_eq_true c3
  clear c3
  by_cases c4 : a1 < (l0.length : Int)
  ·rw [if_pos c4] at H
   have c4b0 : decide (a1 < (l0.length : Int)) = true := decide_eq_true c4
   clear c4
   by_cases c5 : ((rd_T51 l0 a1).f0) = 11
   ·rw [if_pos c5] at H
    have c5b0 : (((rd_T51 l0 a1).f0) == 11) = true := beq_iff_eq.mpr c5
    have c5b1 : (((rd_T51 l0 a1).f0) != 11) = false := bne_eq_false_iff_eq.mpr c5
    clear c5
    obtain rfl := Option.some.inj H
    have p206 : 0 ≤ (a1 : Int) := od_
    have q206 : a1 < (l0.length : Int) := od_
    obtain ⟨ad206, e206, hx206_0, hx206_1, hx206_2, hx206_3, hx206_4, hx206_5⟩ := at_T51 HR0.out a1 p206 q206
    cases e206
    replace p206 := eq_true p206
    replace q206 := eq_true q206
    go_enter Try.func61, Try.ntmps61
    go_wp2_with (first | ((with_reducible refine gate_dst (N := 5) rfl ?_); refine boxq_ (N := 5) (cs := #[.int .i64 0, .int .i64 0, .int .i64 0, .int .i64 0, .int .i64 0, .int .i64 0]) (t := 51) ?_; intro gb207 hg w6 hbox hb; have BK207 := am_ (hbox); have GW207 := gz_ hg; have GE207 := gz_ hg; replace HB := bs_ hb; clear hb hbox hg; have hcz7_0 := cq_ BK207.out 0 (.int .i64 0); have hcz7_1 := cq_ BK207.out 1 (.int .i64 0); have hcz7_2 := cq_ BK207.out 2 (.int .i64 0); have hcz7_3 := cq_ BK207.out 3 (.int .i64 0); have hcz7_4 := cq_ BK207.out 4 (.int .i64 0); have hcz7_5 := cq_ BK207.out 5 (.int .i64 0); have hfz7_0 := blk_frozen BK207.out 0; have hfz7_1 := blk_frozen BK207.out 1; have hfz7_2 := blk_frozen BK207.out 2; have hfz7_3 := blk_frozen BK207.out 3; have hfz7_4 := blk_frozen BK207.out 4; have hfz7_5 := blk_frozen BK207.out 5))
    go_ret
    exact ⟨_, by first | rfl | (simp [errW_none, errW_some] <;> rfl) | (simp [*, errW_none, errW_some] <;> rfl), by first | exact Kd.R_nil _ _ _ _ _ | exact Kd.N_nil _ _ _ _ _ | exact Kd.V_nil _ _ _ _ _ | exact Kd.Q_nil _ _ _ _ _ | exact Kd.S_nil _ _ _ _ _, bq_⟩
   ·rw [if_neg c5] at H
    have c5b0 : (((rd_T51 l0 a1).f0) == 11) = false := beq_eq_false_iff_ne.mpr c5
    have c5b1 : (((rd_T51 l0 a1).f0) != 11) = true := bne_iff_ne.mpr c5
    by_cases c8 : ((rd_T51 l0 a1).f0) = 8
    ·rw [if_pos c8] at H
     have c8b0 : (((rd_T51 l0 a1).f0) == 8) = true := beq_iff_eq.mpr c8
     have c8b1 : (((rd_T51 l0 a1).f0) != 8) = false := bne_eq_false_iff_eq.mpr c8
     clear c8
     obtain ⟨y208, hy208⟩ : ∃ y_ : List Int, y_ = (([wrap64 ((wrap64 (a1 + ((rd_T51 l0 a1).f5))) + 1)] : List Int)) := ⟨_, rfl⟩
     replace H : (some y208) = some r := by first | (rw [hy208]; with_reducible exact H) | (have H2_ := (Option.bind_some _ _).symm.trans H; rw [hy208]; with_reducible exact H2_) | (have H2_ := (Option.bind_some _ _).symm.trans H; with_reducible exact H2_) | with_reducible exact H | (rw [hy208]; exact H) | exact H
     have Ny208 := am_ hy208
     clear hy208
     obtain rfl := Option.some.inj H
     have p206 : 0 ≤ (a1 : Int) := od_
     have q206 : a1 < (l0.length : Int) := od_
     obtain ⟨ad206, e206, hx206_0, hx206_1, hx206_2, hx206_3, hx206_4, hx206_5⟩ := at_T51 HR0.out a1 p206 q206
     cases e206
     replace p206 := eq_true p206
     replace q206 := eq_true q206
     go_enter Try.func61, Try.ntmps61
     go_wp2_with (first | ((with_reducible refine gate_dst (N := 5) rfl ?_); refine boxq_ (N := 5) (cs := #[.int .i64 0, .int .i64 0, .int .i64 0, .int .i64 0, .int .i64 0, .int .i64 0]) (t := 51) ?_; intro gb207 hg w9 hbox hb; have BK207 := am_ (hbox); have GW207 := gz_ hg; have GE207 := gz_ hg; replace HB := bs_ hb; clear hb hbox hg; have hcz10_0 := cq_ BK207.out 0 (.int .i64 0); have hcz10_1 := cq_ BK207.out 1 (.int .i64 0); have hcz10_2 := cq_ BK207.out 2 (.int .i64 0); have hcz10_3 := cq_ BK207.out 3 (.int .i64 0); have hcz10_4 := cq_ BK207.out 4 (.int .i64 0); have hcz10_5 := cq_ BK207.out 5 (.int .i64 0); have hfz10_0 := blk_frozen BK207.out 0; have hfz10_1 := blk_frozen BK207.out 1; have hfz10_2 := blk_frozen BK207.out 2; have hfz10_3 := blk_frozen BK207.out 3; have hfz10_4 := blk_frozen BK207.out 4; have hfz10_5 := blk_frozen BK207.out 5) | ((with_reducible refine gate_dst (N := 21) rfl ?_); refine Kd.R_lit (Kd.int .i64) _ 3 ?hg (N := 21) ?hd (xs := ([wrap64 ((wrap64 (a1 + ((rd_T51 l0 a1).f5))) + 1)] : List Int)) (inner := [.int .i64 (wrap64 ((wrap64 (a1 + ((rd_T51 l0 a1).f5))) + 1))]) (ok := fun _ => True) (okp := fun _ => True) ?hr ?hp (fun _ hk => hk) trivial (Below.refl _ _) (Nat.le_refl _) (by simp) ?_; (case hd => rfl); (case hg => rfl); (case hr => first | (go_simp; done) | (go_simp; rfl)); (case hp => exact (Reps.one (show Kd.M (Kd.int .i64) _ _ _ (wrap64 ((wrap64 (a1 + ((rd_T51 l0 a1).f5))) + 1)) [.int .i64 (wrap64 ((wrap64 (a1 + ((rd_T51 l0 a1).f5))) + 1))] from rfl) (Reps.none _ _))); intro v209 w11 ho12 hb hg_ hnew_; clear hg_ hnew_; (first | rw [← Ny208.out] at ho12 | (simp only [Int.reduceToNat] at ho12; rw [← Ny208.out] at ho12)); have HO210 := am_ (Kd.R_lower ho12 (below_size (bq_))); replace BK207 := am_ (blk_below (bu_ BK207.out) hb); replace HB := bs_ hb; clear hb ho12))
     go_ret
     exact ⟨_, by first | rfl | (simp [errW_none, errW_some] <;> rfl) | (simp [*, errW_none, errW_some] <;> rfl), rq_ HO210.out, bq_⟩
    ·rw [if_neg c8] at H
     have c8b0 : (((rd_T51 l0 a1).f0) == 8) = false := beq_eq_false_iff_ne.mpr c8
     have c8b1 : (((rd_T51 l0 a1).f0) != 8) = true := bne_iff_ne.mpr c8
     by_cases c13 : ((rd_T51 l0 a1).f0) = 9
     ·rw [if_pos c13] at H
      have c13b0 : (((rd_T51 l0 a1).f0) == 9) = true := beq_iff_eq.mpr c13
      have c13b1 : (((rd_T51 l0 a1).f0) != 9) = false := bne_eq_false_iff_eq.mpr c13
      clear c13
      obtain ⟨y211, hy211⟩ : ∃ y_ : List Int, y_ = (([wrap64 (a1 + 1), wrap64 ((wrap64 (a1 + ((rd_T51 l0 a1).f5))) + 1)] : List Int)) := ⟨_, rfl⟩
      replace H : (some y211) = some r := by first | (rw [hy211]; with_reducible exact H) | (have H2_ := (Option.bind_some _ _).symm.trans H; rw [hy211]; with_reducible exact H2_) | (have H2_ := (Option.bind_some _ _).symm.trans H; with_reducible exact H2_) | with_reducible exact H | (rw [hy211]; exact H) | exact H
      have Ny211 := am_ hy211
      clear hy211
      obtain rfl := Option.some.inj H
      have p206 : 0 ≤ (a1 : Int) := od_
      have q206 : a1 < (l0.length : Int) := od_
      obtain ⟨ad206, e206, hx206_0, hx206_1, hx206_2, hx206_3, hx206_4, hx206_5⟩ := at_T51 HR0.out a1 p206 q206
      cases e206
      replace p206 := eq_true p206
      replace q206 := eq_true q206
      go_enter Try.func61, Try.ntmps61
      go_wp2_with (first | ((with_reducible refine gate_dst (N := 5) rfl ?_); refine boxq_ (N := 5) (cs := #[.int .i64 0, .int .i64 0, .int .i64 0, .int .i64 0, .int .i64 0, .int .i64 0]) (t := 51) ?_; intro gb207 hg w14 hbox hb; have BK207 := am_ (hbox); have GW207 := gz_ hg; have GE207 := gz_ hg; replace HB := bs_ hb; clear hb hbox hg; have hcz15_0 := cq_ BK207.out 0 (.int .i64 0); have hcz15_1 := cq_ BK207.out 1 (.int .i64 0); have hcz15_2 := cq_ BK207.out 2 (.int .i64 0); have hcz15_3 := cq_ BK207.out 3 (.int .i64 0); have hcz15_4 := cq_ BK207.out 4 (.int .i64 0); have hcz15_5 := cq_ BK207.out 5 (.int .i64 0); have hfz15_0 := blk_frozen BK207.out 0; have hfz15_1 := blk_frozen BK207.out 1; have hfz15_2 := blk_frozen BK207.out 2; have hfz15_3 := blk_frozen BK207.out 3; have hfz15_4 := blk_frozen BK207.out 4; have hfz15_5 := blk_frozen BK207.out 5) | ((with_reducible refine gate_dst (N := 32) rfl ?_); refine Kd.R_lit (Kd.int .i64) _ 3 ?hg (N := 32) ?hd (xs := ([wrap64 (a1 + 1), wrap64 ((wrap64 (a1 + ((rd_T51 l0 a1).f5))) + 1)] : List Int)) (inner := [.int .i64 (wrap64 (a1 + 1)), .int .i64 (wrap64 ((wrap64 (a1 + ((rd_T51 l0 a1).f5))) + 1))]) (ok := fun _ => True) (okp := fun _ => True) ?hr ?hp (fun _ hk => hk) trivial (Below.refl _ _) (Nat.le_refl _) (by simp) ?_; (case hd => rfl); (case hg => rfl); (case hr => first | (go_simp; done) | (go_simp; rfl)); (case hp => exact (Reps.one (show Kd.M (Kd.int .i64) _ _ _ (wrap64 (a1 + 1)) [.int .i64 (wrap64 (a1 + 1))] from rfl) (Reps.one (show Kd.M (Kd.int .i64) _ _ _ (wrap64 ((wrap64 (a1 + ((rd_T51 l0 a1).f5))) + 1)) [.int .i64 (wrap64 ((wrap64 (a1 + ((rd_T51 l0 a1).f5))) + 1))] from rfl) (Reps.none _ _)))); intro v212 w16 ho17 hb hg_ hnew_; clear hg_ hnew_; (first | rw [← Ny211.out] at ho17 | (simp only [Int.reduceToNat] at ho17; rw [← Ny211.out] at ho17)); have HO213 := am_ (Kd.R_lower ho17 (below_size (bq_))); replace BK207 := am_ (blk_below (bu_ BK207.out) hb); replace HB := bs_ hb; clear hb ho17))
      go_ret
      exact ⟨_, by first | rfl | (simp [errW_none, errW_some] <;> rfl) | (simp [*, errW_none, errW_some] <;> rfl), rq_ HO213.out, bq_⟩
     ·rw [if_neg c13] at H
      have c13b0 : (((rd_T51 l0 a1).f0) == 9) = false := beq_eq_false_iff_ne.mpr c13
      have c13b1 : (((rd_T51 l0 a1).f0) != 9) = true := bne_iff_ne.mpr c13
      by_cases c18 : ((rd_T51 l0 a1).f0) = 10
      ·rw [if_pos c18] at H
       have c18b0 : (((rd_T51 l0 a1).f0) == 10) = true := beq_iff_eq.mpr c18
       have c18b1 : (((rd_T51 l0 a1).f0) != 10) = false := bne_eq_false_iff_eq.mpr c18
       clear c18
       obtain ⟨y214, hy214⟩ : ∃ y_ : List Int, y_ = (([wrap64 (a1 + 1), wrap64 ((wrap64 (a1 + ((rd_T51 l0 a1).f5))) + 1)] : List Int)) := ⟨_, rfl⟩
       replace H : (some y214) = some r := by first | (rw [hy214]; with_reducible exact H) | (have H2_ := (Option.bind_some _ _).symm.trans H; rw [hy214]; with_reducible exact H2_) | (have H2_ := (Option.bind_some _ _).symm.trans H; with_reducible exact H2_) | with_reducible exact H | (rw [hy214]; exact H) | exact H
       have Ny214 := am_ hy214
       clear hy214
       obtain rfl := Option.some.inj H
       have p206 : 0 ≤ (a1 : Int) := od_
       have q206 : a1 < (l0.length : Int) := od_
       obtain ⟨ad206, e206, hx206_0, hx206_1, hx206_2, hx206_3, hx206_4, hx206_5⟩ := at_T51 HR0.out a1 p206 q206
       cases e206
       replace p206 := eq_true p206
       replace q206 := eq_true q206
       go_enter Try.func61, Try.ntmps61
       go_wp2_with (first | ((with_reducible refine gate_dst (N := 5) rfl ?_); refine boxq_ (N := 5) (cs := #[.int .i64 0, .int .i64 0, .int .i64 0, .int .i64 0, .int .i64 0, .int .i64 0]) (t := 51) ?_; intro gb207 hg w19 hbox hb; have BK207 := am_ (hbox); have GW207 := gz_ hg; have GE207 := gz_ hg; replace HB := bs_ hb; clear hb hbox hg; have hcz20_0 := cq_ BK207.out 0 (.int .i64 0); have hcz20_1 := cq_ BK207.out 1 (.int .i64 0); have hcz20_2 := cq_ BK207.out 2 (.int .i64 0); have hcz20_3 := cq_ BK207.out 3 (.int .i64 0); have hcz20_4 := cq_ BK207.out 4 (.int .i64 0); have hcz20_5 := cq_ BK207.out 5 (.int .i64 0); have hfz20_0 := blk_frozen BK207.out 0; have hfz20_1 := blk_frozen BK207.out 1; have hfz20_2 := blk_frozen BK207.out 2; have hfz20_3 := blk_frozen BK207.out 3; have hfz20_4 := blk_frozen BK207.out 4; have hfz20_5 := blk_frozen BK207.out 5) | ((with_reducible refine gate_dst (N := 32) rfl ?_); refine Kd.R_lit (Kd.int .i64) _ 3 ?hg (N := 32) ?hd (xs := ([wrap64 (a1 + 1), wrap64 ((wrap64 (a1 + ((rd_T51 l0 a1).f5))) + 1)] : List Int)) (inner := [.int .i64 (wrap64 (a1 + 1)), .int .i64 (wrap64 ((wrap64 (a1 + ((rd_T51 l0 a1).f5))) + 1))]) (ok := fun _ => True) (okp := fun _ => True) ?hr ?hp (fun _ hk => hk) trivial (Below.refl _ _) (Nat.le_refl _) (by simp) ?_; (case hd => rfl); (case hg => rfl); (case hr => first | (go_simp; done) | (go_simp; rfl)); (case hp => exact (Reps.one (show Kd.M (Kd.int .i64) _ _ _ (wrap64 (a1 + 1)) [.int .i64 (wrap64 (a1 + 1))] from rfl) (Reps.one (show Kd.M (Kd.int .i64) _ _ _ (wrap64 ((wrap64 (a1 + ((rd_T51 l0 a1).f5))) + 1)) [.int .i64 (wrap64 ((wrap64 (a1 + ((rd_T51 l0 a1).f5))) + 1))] from rfl) (Reps.none _ _)))); intro v215 w21 ho22 hb hg_ hnew_; clear hg_ hnew_; (first | rw [← Ny214.out] at ho22 | (simp only [Int.reduceToNat] at ho22; rw [← Ny214.out] at ho22)); have HO216 := am_ (Kd.R_lower ho22 (below_size (bq_))); replace BK207 := am_ (blk_below (bu_ BK207.out) hb); replace HB := bs_ hb; clear hb ho22))
       go_ret
       exact ⟨_, by first | rfl | (simp [errW_none, errW_some] <;> rfl) | (simp [*, errW_none, errW_some] <;> rfl), rq_ HO216.out, bq_⟩
      ·rw [if_neg c18] at H
       have c18b0 : (((rd_T51 l0 a1).f0) == 10) = false := beq_eq_false_iff_ne.mpr c18
       have c18b1 : (((rd_T51 l0 a1).f0) != 10) = true := bne_iff_ne.mpr c18
       obtain ⟨y217, hy217⟩ : ∃ y_ : List Int, y_ = (([wrap64 (a1 + 1)] : List Int)) := ⟨_, rfl⟩
       replace H : (some y217) = some r := by first | (rw [hy217]; with_reducible exact H) | (have H2_ := (Option.bind_some _ _).symm.trans H; rw [hy217]; with_reducible exact H2_) | (have H2_ := (Option.bind_some _ _).symm.trans H; with_reducible exact H2_) | with_reducible exact H | (rw [hy217]; exact H) | exact H
       have Ny217 := am_ hy217
       clear hy217
       obtain rfl := Option.some.inj H
       have p206 : 0 ≤ (a1 : Int) := od_
       have q206 : a1 < (l0.length : Int) := od_
       obtain ⟨ad206, e206, hx206_0, hx206_1, hx206_2, hx206_3, hx206_4, hx206_5⟩ := at_T51 HR0.out a1 p206 q206
       cases e206
       replace p206 := eq_true p206
       replace q206 := eq_true q206
       go_enter Try.func61, Try.ntmps61
       go_wp2_with (first | ((with_reducible refine gate_dst (N := 5) rfl ?_); refine boxq_ (N := 5) (cs := #[.int .i64 0, .int .i64 0, .int .i64 0, .int .i64 0, .int .i64 0, .int .i64 0]) (t := 51) ?_; intro gb207 hg w23 hbox hb; have BK207 := am_ (hbox); have GW207 := gz_ hg; have GE207 := gz_ hg; replace HB := bs_ hb; clear hb hbox hg; have hcz24_0 := cq_ BK207.out 0 (.int .i64 0); have hcz24_1 := cq_ BK207.out 1 (.int .i64 0); have hcz24_2 := cq_ BK207.out 2 (.int .i64 0); have hcz24_3 := cq_ BK207.out 3 (.int .i64 0); have hcz24_4 := cq_ BK207.out 4 (.int .i64 0); have hcz24_5 := cq_ BK207.out 5 (.int .i64 0); have hfz24_0 := blk_frozen BK207.out 0; have hfz24_1 := blk_frozen BK207.out 1; have hfz24_2 := blk_frozen BK207.out 2; have hfz24_3 := blk_frozen BK207.out 3; have hfz24_4 := blk_frozen BK207.out 4; have hfz24_5 := blk_frozen BK207.out 5) | ((with_reducible refine gate_dst (N := 35) rfl ?_); refine Kd.R_lit (Kd.int .i64) _ 3 ?hg (N := 35) ?hd (xs := ([wrap64 (a1 + 1)] : List Int)) (inner := [.int .i64 (wrap64 (a1 + 1))]) (ok := fun _ => True) (okp := fun _ => True) ?hr ?hp (fun _ hk => hk) trivial (Below.refl _ _) (Nat.le_refl _) (by simp) ?_; (case hd => rfl); (case hg => rfl); (case hr => first | (go_simp; done) | (go_simp; rfl)); (case hp => exact (Reps.one (show Kd.M (Kd.int .i64) _ _ _ (wrap64 (a1 + 1)) [.int .i64 (wrap64 (a1 + 1))] from rfl) (Reps.none _ _))); intro v218 w25 ho26 hb hg_ hnew_; clear hg_ hnew_; (first | rw [← Ny217.out] at ho26 | (simp only [Int.reduceToNat] at ho26; rw [← Ny217.out] at ho26)); have HO219 := am_ (Kd.R_lower ho26 (below_size (bq_))); replace BK207 := am_ (blk_below (bu_ BK207.out) hb); replace HB := bs_ hb; clear hb ho26))
       go_ret
       exact ⟨_, by first | rfl | (simp [errW_none, errW_some] <;> rfl) | (simp [*, errW_none, errW_some] <;> rfl), rq_ HO219.out, bq_⟩
  ·rw [if_neg c4] at H
   exact absurd H (by simp)
 ·rw [if_neg c3] at H
  exact absurd H (by simp)
end Go.Proofs.Ytcmhkgpalfljbaa.PPA
