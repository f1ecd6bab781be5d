/- Proved here: the walk of the law FnMet: it answers true, and leaves all that is older as it was. Conditions: the row's own. -/
import Derived.Test.YtpjbemdbbjjblaaPMMx0
import Derived.Test.YtpjbemdbbjjblaaPMMx1
import Derived.Test.YtpjbemdbbjjblaaPMMx2
import Derived.Test.YtpjbemdbbjjblaaPMMx3
import Derived.Test.YtpjbemdbbjjblaaPMMx4
import Derived.Test.YtpjbemdbbjjblaaPMMx5
import Derived.Test.YtpjbemdbbjjblaaPureFnMet
import Derived.Test.YtpjbemdbbjjblaaLw
namespace Go.Proofs.Ytpjbemdbbjjblaa.PMM
open Go.RowKit Go.Proofs.YtpjbemdbbjjblaaW.PrintWords Go.Proofs.YtpjbemdbbjjblaaW.PrintLast Go.Proofs.YtpjbemdbbjjblaaW.PrintMore Go.Proofs.YtpjbemdbbjjblaaW.LawWords Go.Proofs.Ytpjbemdbbjjblaa
attribute [local go_sem] max2_int min2_int max_two min_two max_three min_three max_four min_four
set_option linter.unusedVariables false
set_option linter.unusedSimpArgs false

theorem sz31 : (Try.prog.info? 31).map (·.size) = some 2 := by kernel_rfl
set_option maxHeartbeats 8000000 in
set_option maxRecDepth 100000 in
theorem laws_FnMet.small (w : World) (A0 : Option Addr) (c0 : Nat) (l0 : List Int) (hr0 : Kd.C (Kd.int .u8) w A0 l0.length l0) (hc0 : l0.length ≤ c0) (hg0 : l0.length * 1 ≤ 140737488351232 ∧ ∀ y0_ ∈ l0, (Lit.int .u8 y0_).wf = true) (A1 : Option Addr) (c1 : Nat) (l1 : List Int) (hr1 : Kd.C (Kd.int .u8) w A1 l1.length l1) (hc1 : l1.length ≤ c1) (hg1 : l1.length * 1 ≤ 140737488351232 ∧ ∀ y0_ ∈ l1, (Lit.int .u8 y0_).wf = true) (hlen : ¬ (wrap64 ((l0.length : Int) + (l1.length : Int))) > 1048576) :
    Calls Try.prog 14 #[.slice A0 l0.length c0, .slice A1 l1.length c1] w fun e w' => e = .returned (.bool true) ∧ Below w.heap.size w w' := by
  have HR0 := Aside0.mk hr0
  have HC0 := Aside0.mk hc0
  have HR1 := Aside0.mk hr1
  have HC1 := Aside0.mk hc1
  clear hr0 hc0 hr1 hc1
  have hu31 := Try.underlying31
  have hz := Pure.small_of hlen hg0.1 hg1.1
  have hb0 := Pure.bytes_of hg0 hz.1
  have hb1 := Pure.bytes_of hg1 hz.2
  have hl := decide_eq_false hlen
  clear hlen
  obtain ⟨k, a0, a1, b0, b1, hD⟩ := Pure.drawMeet_some l0 hb0
  obtain ⟨k2, c0_, c1_, d0_, d1_, v1, v2, hD2, hV, hV'⟩ := Pure.drawWithin_some l1 hb1
  obtain ⟨k3, nn, hN, hn0, hn1⟩ := Pure.numberOf_some l1 hb1
  obtain ⟨m0, m1, ok, j0, j1, one, x0, x1, y0, y1, two, hM, hM', hJ, hJ', hL, hL', hF⟩ := Pure.met_all a0 a1 b0 b1
  replace hD := Aside0.mk hD
  replace hD2 := Aside0.mk hD2
  replace hV := Aside0.mk hV
  replace hV' := Aside0.mk hV'
  replace hN := Aside0.mk hN
  replace hM := Aside0.mk hM
  replace hM' := Aside0.mk hM'
  replace hJ := Aside0.mk hJ
  replace hJ' := Aside0.mk hJ'
  replace hL := Aside0.mk hL
  replace hL' := Aside0.mk hL'
  replace hF := Aside0.mk hF
  have HS := Aside0.mk (St.refl w)
  clear hg0 hg1 hb0 hb1 hz
  go_enter Try.func14, Try.ntmps14
  go_upto_region 3 with (fail)
  go_upto_region 4 with (first | (go_at_call 41; refine st_call HS (spec_DrawMeetStretch.calls k _ _ l0 a0 a1 b0 b1 _ (Kd.C_below HR0.out HS.out.below) HC0.out hD.out) ?_; clear HS; intro W1 HS) | ((with_reducible refine gate_dst (N := 5) rfl ?_); refine st_box HS (N := 5) (cs := #[.int .i64 0, .int .i64 0]) (t := 31) ?_; clear HS; intro g5 W2 HS) | ((with_reducible refine gate_dst (N := 6) rfl ?_); refine st_box HS (N := 6) (cs := #[.int .i64 0, .int .i64 0]) (t := 31) ?_; clear HS; intro g6 W3 HS) | ((with_reducible refine gate_store (t := 31) (p := 5) rfl ?_); refine st_store HS (T := 31) (p := 5) (y := .tmp 48) rfl 1 #[.int .i64 a0, .int .i64 a1] rfl sz31 ?_; clear HS; intro W4 HS) | ((with_reducible refine gate_store (t := 31) (p := 6) rfl ?_); refine st_store HS (T := 31) (p := 6) (y := .tmp 49) rfl 0 #[.int .i64 b0, .int .i64 b1] rfl sz31 ?_; clear HS; intro W5 HS))
  go_upto_region 5 with (first | ((with_reducible refine gate_dst (N := 51) rfl ?_); refine st_load HS (T := 31) (p := 5) rfl 1 rfl Try.underlying31 sz31 ?_) | ((with_reducible refine gate_dst (N := 52) rfl ?_); refine st_load HS (T := 31) (p := 6) rfl 0 rfl Try.underlying31 sz31 ?_) | (go_at_call 40; refine st_call HS (impl_MeetStretch.calls a0 a1 b0 b1 m0 m1 ok _ hM.out) ?_; clear HS; intro W6 HS) | ((with_reducible refine gate_dst (N := 7) rfl ?_); refine st_box HS (N := 7) (cs := #[.int .i64 0, .int .i64 0]) (t := 31) ?_; clear HS; intro g7 W7 HS) | ((with_reducible refine gate_store (t := 31) (p := 7) rfl ?_); refine st_store HS (T := 31) (p := 7) (y := .tmp 54) rfl 0 #[.int .i64 m0, .int .i64 m1] rfl sz31 ?_; clear HS; intro W8 HS))
  go_upto_region 6 with (first | ((with_reducible refine gate_dst (N := 57) rfl ?_); refine st_load HS (T := 31) (p := 5) rfl 2 rfl Try.underlying31 sz31 ?_) | ((with_reducible refine gate_dst (N := 58) rfl ?_); refine st_load HS (T := 31) (p := 6) rfl 1 rfl Try.underlying31 sz31 ?_) | (go_at_call 39; refine st_call HS (spec_MeetStretch.calls a0 a1 b0 b1 m0 m1 ok _ hM'.out) ?_; clear HS; intro W9 HS) | ((with_reducible refine gate_dst (N := 9) rfl ?_); refine st_box HS (N := 9) (cs := #[.int .i64 0, .int .i64 0]) (t := 31) ?_; clear HS; intro g9 W10 HS) | ((with_reducible refine gate_store (t := 31) (p := 9) rfl ?_); refine st_store HS (T := 31) (p := 9) (y := .tmp 60) rfl 0 #[.int .i64 m0, .int .i64 m1] rfl sz31 ?_; clear HS; intro W11 HS))
  go_upto_region 7 with (first | ((with_reducible refine gate_dst (N := 63) rfl ?_); refine st_load HS (T := 31) (p := 5) rfl 3 rfl Try.underlying31 sz31 ?_) | ((with_reducible refine gate_dst (N := 64) rfl ?_); refine st_load HS (T := 31) (p := 6) rfl 2 rfl Try.underlying31 sz31 ?_) | (go_at_call 35; refine st_call HS (impl_JoinStretch.calls a0 a1 b0 b1 j0 j1 one _ hJ.out) ?_; clear HS; intro W12 HS) | ((with_reducible refine gate_dst (N := 11) rfl ?_); refine st_box HS (N := 11) (cs := #[.int .i64 0, .int .i64 0]) (t := 31) ?_; clear HS; intro g11 W13 HS) | ((with_reducible refine gate_store (t := 31) (p := 11) rfl ?_); refine st_store HS (T := 31) (p := 11) (y := .tmp 66) rfl 0 #[.int .i64 j0, .int .i64 j1] rfl sz31 ?_; clear HS; intro W14 HS))
  go_upto_region 8 with (first | ((with_reducible refine gate_dst (N := 69) rfl ?_); refine st_load HS (T := 31) (p := 5) rfl 4 rfl Try.underlying31 sz31 ?_) | ((with_reducible refine gate_dst (N := 70) rfl ?_); refine st_load HS (T := 31) (p := 6) rfl 3 rfl Try.underlying31 sz31 ?_) | (go_at_call 34; refine st_call HS (spec_JoinStretch.calls a0 a1 b0 b1 j0 j1 one _ hJ'.out) ?_; clear HS; intro W15 HS) | ((with_reducible refine gate_dst (N := 13) rfl ?_); refine st_box HS (N := 13) (cs := #[.int .i64 0, .int .i64 0]) (t := 31) ?_; clear HS; intro g13 W16 HS) | ((with_reducible refine gate_store (t := 31) (p := 13) rfl ?_); refine st_store HS (T := 31) (p := 13) (y := .tmp 72) rfl 0 #[.int .i64 j0, .int .i64 j1] rfl sz31 ?_; clear HS; intro W17 HS))
  go_upto_region 9 with (first | ((with_reducible refine gate_dst (N := 75) rfl ?_); refine st_load HS (T := 31) (p := 5) rfl 5 rfl Try.underlying31 sz31 ?_) | ((with_reducible refine gate_dst (N := 76) rfl ?_); refine st_load HS (T := 31) (p := 6) rfl 4 rfl Try.underlying31 sz31 ?_) | (go_at_call 38; refine st_call HS (impl_SplitLess.calls a0 a1 b0 b1 x0 x1 y0 y1 two _ hL.out) ?_; clear HS; intro W18 HS) | ((with_reducible refine gate_dst (N := 15) rfl ?_); refine st_box HS (N := 15) (cs := #[.int .i64 0, .int .i64 0]) (t := 31) ?_; clear HS; intro g15 W19 HS) | ((with_reducible refine gate_dst (N := 16) rfl ?_); refine st_box HS (N := 16) (cs := #[.int .i64 0, .int .i64 0]) (t := 31) ?_; clear HS; intro g16 W20 HS) | ((with_reducible refine gate_store (t := 31) (p := 15) rfl ?_); refine st_store HS (T := 31) (p := 15) (y := .tmp 78) rfl 1 #[.int .i64 x0, .int .i64 x1] rfl sz31 ?_; clear HS; intro W21 HS) | ((with_reducible refine gate_store (t := 31) (p := 16) rfl ?_); refine st_store HS (T := 31) (p := 16) (y := .tmp 79) rfl 0 #[.int .i64 y0, .int .i64 y1] rfl sz31 ?_; clear HS; intro W22 HS))
  go_upto_region 10 with (first | ((with_reducible refine gate_dst (N := 82) rfl ?_); refine st_load HS (T := 31) (p := 5) rfl 7 rfl Try.underlying31 sz31 ?_) | ((with_reducible refine gate_dst (N := 83) rfl ?_); refine st_load HS (T := 31) (p := 6) rfl 6 rfl Try.underlying31 sz31 ?_) | (go_at_call 37; refine st_call HS (spec_SplitLess.calls a0 a1 b0 b1 x0 x1 y0 y1 two _ hL'.out) ?_; clear HS; intro W23 HS) | ((with_reducible refine gate_dst (N := 18) rfl ?_); refine st_box HS (N := 18) (cs := #[.int .i64 0, .int .i64 0]) (t := 31) ?_; clear HS; intro g18 W24 HS) | ((with_reducible refine gate_dst (N := 19) rfl ?_); refine st_box HS (N := 19) (cs := #[.int .i64 0, .int .i64 0]) (t := 31) ?_; clear HS; intro g19 W25 HS) | ((with_reducible refine gate_store (t := 31) (p := 18) rfl ?_); refine st_store HS (T := 31) (p := 18) (y := .tmp 85) rfl 1 #[.int .i64 x0, .int .i64 x1] rfl sz31 ?_; clear HS; intro W26 HS) | ((with_reducible refine gate_store (t := 31) (p := 19) rfl ?_); refine st_store HS (T := 31) (p := 19) (y := .tmp 86) rfl 0 #[.int .i64 y0, .int .i64 y1] rfl sz31 ?_; clear HS; intro W27 HS))
  have cg11_0 := HS.out.cell 5 0 rfl rfl
  have cg11_1 := HS.out.cell 5 1 rfl rfl
  have cg13_0 := HS.out.cell 4 0 rfl rfl
  have cg13_1 := HS.out.cell 4 1 rfl rfl
  have cg15_0 := HS.out.cell 3 0 rfl rfl
  have cg15_1 := HS.out.cell 3 1 rfl rfl
  have cg16_0 := HS.out.cell 2 0 rfl rfl
  have cg16_1 := HS.out.cell 2 1 rfl rfl
  have cg18_0 := HS.out.cell 1 0 rfl rfl
  have cg18_1 := HS.out.cell 1 1 rfl rfl
  have cg19_0 := HS.out.cell 0 0 rfl rfl
  have cg19_1 := HS.out.cell 0 1 rfl rfl
  have cg7_0 := HS.out.cell 7 0 rfl rfl
  have cg7_1 := HS.out.cell 7 1 rfl rfl
  have cg9_0 := HS.out.cell 6 0 rfl rfl
  have cg9_1 := HS.out.cell 6 1 rfl rfl
  go_upto_if 120 with (fail)
  clear cg11_0 cg11_1 cg13_0 cg13_1 cg15_0 cg15_1 cg16_0 cg16_1 cg18_0 cg18_1 cg19_0 cg19_1 cg7_0 cg7_1 cg9_0 cg9_1
  go_upto_if 121 with (fail)
  refine wp_cut (fun a' wc => ∃ z_ : Nat → Value, a' = ⟨#[.slice A0 l0.length c0, .slice A1 l1.length c1, z_ 2, z_ 3, .bool false, z_ 5, z_ 6, z_ 7, z_ 8, z_ 9, z_ 10, z_ 11, z_ 12, z_ 13, z_ 14, z_ 15, z_ 16, z_ 17, z_ 18, z_ 19, z_ 20, z_ 21, z_ 22, z_ 23, z_ 24, z_ 25, z_ 26, z_ 27, z_ 28, z_ 29, z_ 30, z_ 31, z_ 32, z_ 33, z_ 34, z_ 35, z_ 36, z_ 37, z_ 38, z_ 39, z_ 40, z_ 41, z_ 42, z_ 43, z_ 44, z_ 45, z_ 46, z_ 47, z_ 48, z_ 49, z_ 50, z_ 51, z_ 52, z_ 53, z_ 54, z_ 55, z_ 56, z_ 57, z_ 58, z_ 59, z_ 60, z_ 61, z_ 62, z_ 63, z_ 64, z_ 65, z_ 66, z_ 67, z_ 68, z_ 69, z_ 70, z_ 71, z_ 72, z_ 73, z_ 74, z_ 75, z_ 76, z_ 77, z_ 78, z_ 79, z_ 80, z_ 81, z_ 82, z_ 83, z_ 84, z_ 85, z_ 86, z_ 87, z_ 88, z_ 89, z_ 90, z_ 91, z_ 92, z_ 93, z_ 94, z_ 95, z_ 96, z_ 97, z_ 98, z_ 99, z_ 100, z_ 101, z_ 102, z_ 103, z_ 104, z_ 105, z_ 106, z_ 107, z_ 108, z_ 109, z_ 110, z_ 111, z_ 112, z_ 113, z_ 114, z_ 115, z_ 116, z_ 117, z_ 118, z_ 119, z_ 120, z_ 121, z_ 122, z_ 123, z_ 124, z_ 125, z_ 126, z_ 127, z_ 128, z_ 129, z_ 130, z_ 131, z_ 132, z_ 133, z_ 134, z_ 135, z_ 136, z_ 137, z_ 138, z_ 139, z_ 140, z_ 141, z_ 142, z_ 143, z_ 144, z_ 145, z_ 146, z_ 147, z_ 148, z_ 149, z_ 150, z_ 151, z_ 152, z_ 153, z_ 154, z_ 155, z_ 156, z_ 157, z_ 158, z_ 159, z_ 160, z_ 161, z_ 162, z_ 163, z_ 164, z_ 165, z_ 166, z_ 167, z_ 168, z_ 169, z_ 170, z_ 171, z_ 172, z_ 173, z_ 174, z_ 175, z_ 176, z_ 177, z_ 178, z_ 179, z_ 180, z_ 181, z_ 182, z_ 183, z_ 184, z_ 185, z_ 186, z_ 187, z_ 188, z_ 189, z_ 190, z_ 191, z_ 192, z_ 193, z_ 194, z_ 195, z_ 196, z_ 197, z_ 198, z_ 199, z_ 200, z_ 201, z_ 202, z_ 203, z_ 204, z_ 205, z_ 206, z_ 207, z_ 208, z_ 209, z_ 210, z_ 211, z_ 212, z_ 213, z_ 214, z_ 215, z_ 216, z_ 217, z_ 218, z_ 219, z_ 220, z_ 221, z_ 222, z_ 223, z_ 224, z_ 225, z_ 226, z_ 227, z_ 228, z_ 229, z_ 230, z_ 231, z_ 232, z_ 233, z_ 234, z_ 235, z_ 236, z_ 237, z_ 238, z_ 239, z_ 240, z_ 241, z_ 242, z_ 243, z_ 244, z_ 245, z_ 246, z_ 247, z_ 248, z_ 249, z_ 250, z_ 251, z_ 252, z_ 253, z_ 254, z_ 255, z_ 256, z_ 257, z_ 258, z_ 259, z_ 260, z_ 261, z_ 262, z_ 263, z_ 264, z_ 265, z_ 266, z_ 267, z_ 268, z_ 269, z_ 270, z_ 271, z_ 272, z_ 273, z_ 274, z_ 275, z_ 276, z_ 277, z_ 278, z_ 279, z_ 280, z_ 281, z_ 282, z_ 283, z_ 284, z_ 285, z_ 286, z_ 287, z_ 288, z_ 289, z_ 290, z_ 291, z_ 292, z_ 293, z_ 294, z_ 295, z_ 296, z_ 297, z_ 298, z_ 299, z_ 300, z_ 301], []⟩ ∧ Aside0 (St w wc [])) ?_ ?_
  rotate_left
  · intro J_ K_ hJ_ hK_
    cases one with
    | false =>
      go_wp2
      replace HS := Aside0.mk HS.out.nil
      exact meet_us hJ_ rfl HS
    | true =>
      obtain ⟨ha0, ha, ha1, hb0, hb, hb1, hok, htwo, hW1, hW2, hW3, hW4, hUV⟩ := hF.out rfl
      replace hok := Aside0.mk hok
      replace htwo := Aside0.mk htwo
      replace hW1 := Aside0.mk hW1
      replace hW2 := Aside0.mk hW2
      replace hW3 := Aside0.mk hW3
      replace hW4 := Aside0.mk hW4
      replace hUV := Aside0.mk hUV
      clear hF
      go_upto_region 14 with (first | ((with_reducible refine gate_dst (N := 123) rfl ?_); refine st_load HS (T := 31) (p := 5) rfl 9 rfl Try.underlying31 sz31 ?_) | ((with_reducible refine gate_dst (N := 124) rfl ?_); refine st_load HS (T := 31) (p := 11) rfl 5 rfl Try.underlying31 sz31 ?_) | (go_at_call 28; refine st_call HS (impl_WithinStretch.calls a0 a1 j0 j1 true true _ hW1.out) ?_; clear HS; intro W28 HS))
      go_upto_region 15 with (first | ((with_reducible refine gate_dst (N := 129) rfl ?_); refine st_load HS (T := 31) (p := 6) rfl 8 rfl Try.underlying31 sz31 ?_) | ((with_reducible refine gate_dst (N := 130) rfl ?_); refine st_load HS (T := 31) (p := 11) rfl 5 rfl Try.underlying31 sz31 ?_) | (go_at_call 28; refine st_call HS (impl_WithinStretch.calls b0 b1 j0 j1 true true _ hW2.out) ?_; clear HS; intro W29 HS))
      refine wp_cut (fun a' wc => ∃ z_ : Nat → Value, a' = ⟨#[.slice A0 l0.length c0, .slice A1 l1.length c1, z_ 2, z_ 3, .bool false, .pointer (some ⟨g5, 0, none⟩), .pointer (some ⟨g6, 0, none⟩), .pointer (some ⟨g7, 0, none⟩), .bool ok, z_ 9, z_ 10, .pointer (some ⟨g11, 0, none⟩), .bool true, z_ 13, z_ 14, .pointer (some ⟨g15, 0, none⟩), .pointer (some ⟨g16, 0, none⟩), .bool two, z_ 18, z_ 19, z_ 20, z_ 21, z_ 22, z_ 23, z_ 24, z_ 25, z_ 26, z_ 27, z_ 28, z_ 29, z_ 30, z_ 31, z_ 32, z_ 33, z_ 34, z_ 35, z_ 36, z_ 37, z_ 38, z_ 39, z_ 40, z_ 41, z_ 42, z_ 43, z_ 44, z_ 45, z_ 46, z_ 47, z_ 48, z_ 49, z_ 50, z_ 51, z_ 52, z_ 53, z_ 54, z_ 55, z_ 56, z_ 57, z_ 58, z_ 59, z_ 60, z_ 61, z_ 62, z_ 63, z_ 64, z_ 65, z_ 66, z_ 67, z_ 68, z_ 69, z_ 70, z_ 71, z_ 72, z_ 73, z_ 74, z_ 75, z_ 76, z_ 77, z_ 78, z_ 79, z_ 80, z_ 81, z_ 82, z_ 83, z_ 84, z_ 85, z_ 86, z_ 87, z_ 88, z_ 89, z_ 90, z_ 91, z_ 92, z_ 93, z_ 94, z_ 95, z_ 96, z_ 97, z_ 98, z_ 99, z_ 100, z_ 101, z_ 102, z_ 103, z_ 104, z_ 105, z_ 106, z_ 107, z_ 108, z_ 109, z_ 110, z_ 111, z_ 112, z_ 113, z_ 114, z_ 115, z_ 116, z_ 117, z_ 118, z_ 119, z_ 120, z_ 121, z_ 122, z_ 123, z_ 124, z_ 125, z_ 126, z_ 127, z_ 128, z_ 129, z_ 130, z_ 131, z_ 132, z_ 133, z_ 134, z_ 135, z_ 136, z_ 137, z_ 138, z_ 139, z_ 140, z_ 141, z_ 142, z_ 143, z_ 144, z_ 145, z_ 146, z_ 147, z_ 148, z_ 149, z_ 150, z_ 151, z_ 152, z_ 153, z_ 154, z_ 155, z_ 156, z_ 157, z_ 158, z_ 159, z_ 160, z_ 161, z_ 162, z_ 163, z_ 164, z_ 165, z_ 166, z_ 167, z_ 168, z_ 169, z_ 170, z_ 171, .bool false, z_ 173, z_ 174, z_ 175, z_ 176, z_ 177, z_ 178, z_ 179, z_ 180, z_ 181, z_ 182, z_ 183, z_ 184, z_ 185, z_ 186, z_ 187, z_ 188, z_ 189, z_ 190, z_ 191, z_ 192, z_ 193, z_ 194, z_ 195, z_ 196, z_ 197, z_ 198, z_ 199, z_ 200, z_ 201, z_ 202, z_ 203, z_ 204, z_ 205, z_ 206, z_ 207, z_ 208, z_ 209, z_ 210, z_ 211, z_ 212, z_ 213, z_ 214, z_ 215, z_ 216, z_ 217, z_ 218, z_ 219, z_ 220, z_ 221, z_ 222, z_ 223, z_ 224, z_ 225, z_ 226, z_ 227, z_ 228, z_ 229, z_ 230, z_ 231, z_ 232, z_ 233, z_ 234, z_ 235, z_ 236, z_ 237, z_ 238, z_ 239, z_ 240, z_ 241, z_ 242, z_ 243, z_ 244, z_ 245, z_ 246, z_ 247, z_ 248, z_ 249, z_ 250, z_ 251, z_ 252, z_ 253, z_ 254, z_ 255, z_ 256, z_ 257, z_ 258, z_ 259, z_ 260, z_ 261, z_ 262, z_ 263, z_ 264, z_ 265, z_ 266, z_ 267, z_ 268, z_ 269, z_ 270, z_ 271, z_ 272, z_ 273, z_ 274, z_ 275, z_ 276, z_ 277, z_ 278, z_ 279, z_ 280, z_ 281, z_ 282, z_ 283, z_ 284, z_ 285, z_ 286, z_ 287, z_ 288, z_ 289, z_ 290, z_ 291, z_ 292, z_ 293, z_ 294, z_ 295, z_ 296, z_ 297, z_ 298, z_ 299, z_ 300, z_ 301], []⟩ ∧ Aside0 (St w wc [.box g19 (.cells #[.int .i64 y0, .int .i64 y1] 31 (0, 0)), .box g18 (.cells #[.int .i64 x0, .int .i64 x1] 31 (0, 0)), .box g16 (.cells #[.int .i64 y0, .int .i64 y1] 31 (0, 0)), .box g15 (.cells #[.int .i64 x0, .int .i64 x1] 31 (0, 0)), .box g13 (.cells #[.int .i64 j0, .int .i64 j1] 31 (0, 0)), .box g11 (.cells #[.int .i64 j0, .int .i64 j1] 31 (0, 0)), .box g9 (.cells #[.int .i64 m0, .int .i64 m1] 31 (0, 0)), .box g7 (.cells #[.int .i64 m0, .int .i64 m1] 31 (0, 0)), .box g6 (.cells #[.int .i64 b0, .int .i64 b1] 31 (0, 0)), .box g5 (.cells #[.int .i64 a0, .int .i64 a1] 31 (0, 0))])) ?_ ?_
      rotate_left
      · intro J_ K_ hJ_ hK_
        have cg5_0 := HS.out.cell 9 0 rfl rfl
        have cg5_1 := HS.out.cell 9 1 rfl rfl
        have cg6_0 := HS.out.cell 8 0 rfl rfl
        have cg6_1 := HS.out.cell 8 1 rfl rfl
        have h3 := htwo.out
        subst h3
        by_cases e1 : a0 ≤ b1
        all_goals by_cases e2 : b0 ≤ a1
        all_goals
          first | (have f1 := decide_eq_false e1) | (have f1 := decide_eq_true e1)
          first | (have f2 := decide_eq_false e2) | (have f2 := decide_eq_true e2)
          have h2 := hok.out
          rw [f1, f2] at h2
          clear e1 e2 hok
          cases ok <;> simp at h2
          go_wp2
          exact meet_us hJ_ rfl HS
      clear HS
      rintro _ wc ⟨z_, rfl, HS⟩
      try dsimp only
      go_upto_if 173 with (fail)
      clear hok
      refine wp_cut (fun a' wc => ∃ z_ : Nat → Value, a' = ⟨#[.slice A0 l0.length c0, .slice A1 l1.length c1, z_ 2, z_ 3, .bool false, .pointer (some ⟨g5, 0, none⟩), .pointer (some ⟨g6, 0, none⟩), .pointer (some ⟨g7, 0, none⟩), .bool ok, z_ 9, z_ 10, .pointer (some ⟨g11, 0, none⟩), .bool true, z_ 13, z_ 14, .pointer (some ⟨g15, 0, none⟩), .pointer (some ⟨g16, 0, none⟩), .bool two, z_ 18, z_ 19, z_ 20, z_ 21, z_ 22, z_ 23, z_ 24, z_ 25, z_ 26, z_ 27, z_ 28, z_ 29, z_ 30, z_ 31, z_ 32, z_ 33, z_ 34, z_ 35, z_ 36, z_ 37, z_ 38, z_ 39, z_ 40, z_ 41, z_ 42, z_ 43, z_ 44, z_ 45, z_ 46, z_ 47, z_ 48, z_ 49, z_ 50, z_ 51, z_ 52, z_ 53, z_ 54, z_ 55, z_ 56, z_ 57, z_ 58, z_ 59, z_ 60, z_ 61, z_ 62, z_ 63, z_ 64, z_ 65, z_ 66, z_ 67, z_ 68, z_ 69, z_ 70, z_ 71, z_ 72, z_ 73, z_ 74, z_ 75, z_ 76, z_ 77, z_ 78, z_ 79, z_ 80, z_ 81, z_ 82, z_ 83, z_ 84, z_ 85, z_ 86, z_ 87, z_ 88, z_ 89, z_ 90, z_ 91, z_ 92, z_ 93, z_ 94, z_ 95, z_ 96, z_ 97, z_ 98, z_ 99, z_ 100, z_ 101, z_ 102, z_ 103, z_ 104, z_ 105, z_ 106, z_ 107, z_ 108, z_ 109, z_ 110, z_ 111, z_ 112, z_ 113, z_ 114, z_ 115, z_ 116, z_ 117, z_ 118, z_ 119, z_ 120, z_ 121, z_ 122, z_ 123, z_ 124, z_ 125, z_ 126, z_ 127, z_ 128, z_ 129, z_ 130, z_ 131, z_ 132, z_ 133, z_ 134, z_ 135, z_ 136, z_ 137, z_ 138, z_ 139, z_ 140, z_ 141, z_ 142, z_ 143, z_ 144, z_ 145, z_ 146, z_ 147, z_ 148, z_ 149, z_ 150, z_ 151, z_ 152, z_ 153, z_ 154, z_ 155, z_ 156, z_ 157, z_ 158, z_ 159, z_ 160, z_ 161, z_ 162, z_ 163, z_ 164, z_ 165, z_ 166, z_ 167, z_ 168, z_ 169, z_ 170, z_ 171, z_ 172, z_ 173, z_ 174, z_ 175, z_ 176, z_ 177, z_ 178, z_ 179, z_ 180, z_ 181, z_ 182, z_ 183, z_ 184, z_ 185, z_ 186, z_ 187, z_ 188, z_ 189, z_ 190, z_ 191, z_ 192, z_ 193, z_ 194, z_ 195, z_ 196, z_ 197, z_ 198, z_ 199, z_ 200, z_ 201, z_ 202, z_ 203, z_ 204, z_ 205, z_ 206, z_ 207, z_ 208, z_ 209, z_ 210, z_ 211, z_ 212, z_ 213, z_ 214, z_ 215, z_ 216, z_ 217, z_ 218, z_ 219, z_ 220, z_ 221, z_ 222, z_ 223, z_ 224, z_ 225, z_ 226, z_ 227, z_ 228, z_ 229, z_ 230, z_ 231, z_ 232, z_ 233, z_ 234, z_ 235, z_ 236, z_ 237, z_ 238, z_ 239, z_ 240, z_ 241, z_ 242, z_ 243, z_ 244, z_ 245, z_ 246, z_ 247, z_ 248, z_ 249, z_ 250, z_ 251, z_ 252, z_ 253, z_ 254, z_ 255, z_ 256, z_ 257, z_ 258, z_ 259, z_ 260, z_ 261, z_ 262, z_ 263, z_ 264, z_ 265, z_ 266, z_ 267, z_ 268, z_ 269, z_ 270, z_ 271, z_ 272, z_ 273, z_ 274, z_ 275, z_ 276, z_ 277, z_ 278, z_ 279, z_ 280, z_ 281, z_ 282, z_ 283, z_ 284, z_ 285, z_ 286, z_ 287, z_ 288, z_ 289, z_ 290, z_ 291, z_ 292, z_ 293, z_ 294, z_ 295, z_ 296, z_ 297, z_ 298, z_ 299, z_ 300, z_ 301], []⟩ ∧ Aside0 (St w wc [.box g19 (.cells #[.int .i64 y0, .int .i64 y1] 31 (0, 0)), .box g18 (.cells #[.int .i64 x0, .int .i64 x1] 31 (0, 0)), .box g16 (.cells #[.int .i64 y0, .int .i64 y1] 31 (0, 0)), .box g15 (.cells #[.int .i64 x0, .int .i64 x1] 31 (0, 0)), .box g13 (.cells #[.int .i64 j0, .int .i64 j1] 31 (0, 0)), .box g11 (.cells #[.int .i64 j0, .int .i64 j1] 31 (0, 0)), .box g9 (.cells #[.int .i64 m0, .int .i64 m1] 31 (0, 0)), .box g7 (.cells #[.int .i64 m0, .int .i64 m1] 31 (0, 0)), .box g6 (.cells #[.int .i64 b0, .int .i64 b1] 31 (0, 0)), .box g5 (.cells #[.int .i64 a0, .int .i64 a1] 31 (0, 0))])) ?_ ?_
      rotate_left
      · intro J_ K_ hJ_ hK_
        cases ok with
        | false =>
          go_wp2
          exact meet_us hJ_ rfl HS
        | true =>
          have hw3 := Aside0.mk (hW3.out rfl)
          have hw4 := Aside0.mk (hW4.out rfl)
          go_upto_region 19 with (first | ((with_reducible refine gate_dst (N := 175) rfl ?_); refine st_load HS (T := 31) (p := 7) rfl 7 rfl Try.underlying31 sz31 ?_) | ((with_reducible refine gate_dst (N := 176) rfl ?_); refine st_load HS (T := 31) (p := 5) rfl 9 rfl Try.underlying31 sz31 ?_) | (go_at_call 28; refine st_call HS (impl_WithinStretch.calls m0 m1 a0 a1 true true _ hw3.out) ?_; clear HS; intro W30 HS))
          go_upto_region 20 with (first | ((with_reducible refine gate_dst (N := 181) rfl ?_); refine st_load HS (T := 31) (p := 7) rfl 7 rfl Try.underlying31 sz31 ?_) | ((with_reducible refine gate_dst (N := 182) rfl ?_); refine st_load HS (T := 31) (p := 6) rfl 8 rfl Try.underlying31 sz31 ?_) | (go_at_call 28; refine st_call HS (impl_WithinStretch.calls m0 m1 b0 b1 true true _ hw4.out) ?_; clear HS; intro W31 HS))
          go_wp2
          exact meet_us hJ_ rfl HS
      clear HS
      rintro _ wc ⟨z_, rfl, HS⟩
      try dsimp only
      obtain ⟨nA, hnA⟩ : ∃ x : Int, a1 - a0 + 1 = x := ⟨_, rfl⟩
      obtain ⟨nB, hnB⟩ : ∃ x : Int, b1 - b0 + 1 = x := ⟨_, rfl⟩
      have hA1 : 1 ≤ nA := by omega
      have hA2 : nA ≤ 65536 := by omega
      have hB1 : 1 ≤ nB := by omega
      have hB2 : nB ≤ 65536 := by omega
      have hA3 : a0 + nA ≤ a1 + 1 := by omega
      have hB3 : b0 + nB ≤ b1 + 1 := by omega
      have cg5_0 := HS.out.cell 9 0 rfl rfl
      have cg5_1 := HS.out.cell 9 1 rfl rfl
      go_upto_region 23 with (fail)
      clear cg5_0 cg5_1
      have cg6_0 := HS.out.cell 8 0 rfl rfl
      have cg6_1 := HS.out.cell 8 1 rfl rfl
      go_upto_region 24 with (fail)
      clear cg6_0 cg6_1
      have q1 : (nA == 0) = false := by rw [beq_eq_false_iff_ne]; omega
      have q2 : (nB == 0) = false := by rw [beq_eq_false_iff_ne]; omega
      obtain ⟨u, hu⟩ : ∃ x : Int, wrap64 (a0 + nn % nA) = x := ⟨_, rfl⟩
      obtain ⟨v, hv⟩ : ∃ x : Int, wrap64 (b0 + nn / 7 % nB) = x := ⟨_, rfl⟩
      have cg5_0 := HS.out.cell 9 0 rfl rfl
      have cg5_1 := HS.out.cell 9 1 rfl rfl
      have cg6_0 := HS.out.cell 8 0 rfl rfl
      have cg6_1 := HS.out.cell 8 1 rfl rfl
      clear hnA hnB
      go_quiet ((go_at_call 42; exact quiet_drawn (laws_numberOf.calls k3 _ _ l1 nn _ (Kd.C_drewN (Kd.C_below HR1.out HS.out.below) _) HC1.out hN.out)))
      go_upto_region 25 with (fail)
      clear cg5_0 cg5_1 cg6_0 cg6_1
      generalize hq_ : World.drewN _ _ = W32; have n0_ := Aside0.mk (drewn_st HS.out hq_); clear HS hq_; have HS := n0_; clear n0_
      have cg5_0 := HS.out.cell 9 0 rfl rfl
      have cg5_1 := HS.out.cell 9 1 rfl rfl
      have cg6_0 := HS.out.cell 8 0 rfl rfl
      have cg6_1 := HS.out.cell 8 1 rfl rfl
      go_quiet ((go_at_call 42; exact quiet_drawn (laws_numberOf.calls k3 _ _ l1 nn _ (Kd.C_drewN (Kd.C_below HR1.out HS.out.below) _) HC1.out hN.out)))
      go_upto_region 26 with (fail)
      clear cg5_0 cg5_1 cg6_0 cg6_1
      generalize hq_ : World.drewN _ _ = W33; have n0_ := Aside0.mk (drewn_st HS.out hq_); clear HS hq_; have HS := n0_; clear n0_
      clear q1 q2
      simp only [hu, hv]
      obtain ⟨hu0, hu1⟩ : a0 ≤ u ∧ u ≤ a1 := by have := Pure.at_in (a := a0) (n := nn) (N := nA) (by omega) (by omega) (by omega) (by omega) (by omega); omega
      obtain ⟨hv0, hv1⟩ : b0 ≤ v ∧ v ≤ b1 := by have := Pure.at_in (a := b0) (n := nn / 7) (N := nB) (by omega) (by omega) (by omega) (by omega) (by omega); omega
      have hUV' := hUV.out u v hu0 hu1 hv0 hv1
      clear hu hv hUV
      obtain ⟨hU, hV2⟩ := hUV'
      replace hU := Aside0.mk hU
      replace hV2 := Aside0.mk hV2
      refine wp_cut (fun a' wc => ∃ z_ : Nat → Value, a' = ⟨#[.slice A0 l0.length c0, .slice A1 l1.length c1, z_ 2, z_ 3, .bool false, z_ 5, z_ 6, .pointer (some ⟨g7, 0, none⟩), .bool ok, z_ 9, z_ 10, z_ 11, z_ 12, z_ 13, z_ 14, z_ 15, z_ 16, z_ 17, z_ 18, z_ 19, z_ 20, z_ 21, z_ 22, z_ 23, z_ 24, z_ 25, z_ 26, z_ 27, z_ 28, z_ 29, z_ 30, .int .i64 u, .int .i64 v, z_ 33, z_ 34, z_ 35, z_ 36, z_ 37, z_ 38, z_ 39, z_ 40, z_ 41, z_ 42, z_ 43, z_ 44, z_ 45, z_ 46, z_ 47, z_ 48, z_ 49, z_ 50, z_ 51, z_ 52, z_ 53, z_ 54, z_ 55, z_ 56, z_ 57, z_ 58, z_ 59, z_ 60, z_ 61, z_ 62, z_ 63, z_ 64, z_ 65, z_ 66, z_ 67, z_ 68, z_ 69, z_ 70, z_ 71, z_ 72, z_ 73, z_ 74, z_ 75, z_ 76, z_ 77, z_ 78, z_ 79, z_ 80, z_ 81, z_ 82, z_ 83, z_ 84, z_ 85, z_ 86, z_ 87, z_ 88, z_ 89, z_ 90, z_ 91, z_ 92, z_ 93, z_ 94, z_ 95, z_ 96, z_ 97, z_ 98, z_ 99, z_ 100, z_ 101, z_ 102, z_ 103, z_ 104, z_ 105, z_ 106, z_ 107, z_ 108, z_ 109, z_ 110, z_ 111, z_ 112, z_ 113, z_ 114, z_ 115, z_ 116, z_ 117, z_ 118, z_ 119, z_ 120, z_ 121, z_ 122, z_ 123, z_ 124, z_ 125, z_ 126, z_ 127, z_ 128, z_ 129, z_ 130, z_ 131, z_ 132, z_ 133, z_ 134, z_ 135, z_ 136, z_ 137, z_ 138, z_ 139, z_ 140, z_ 141, z_ 142, z_ 143, z_ 144, z_ 145, z_ 146, z_ 147, z_ 148, z_ 149, z_ 150, z_ 151, z_ 152, z_ 153, z_ 154, z_ 155, z_ 156, z_ 157, z_ 158, z_ 159, z_ 160, z_ 161, z_ 162, z_ 163, z_ 164, z_ 165, z_ 166, z_ 167, z_ 168, z_ 169, z_ 170, z_ 171, z_ 172, z_ 173, z_ 174, z_ 175, z_ 176, z_ 177, z_ 178, z_ 179, z_ 180, z_ 181, z_ 182, z_ 183, z_ 184, z_ 185, z_ 186, z_ 187, z_ 188, z_ 189, z_ 190, z_ 191, z_ 192, z_ 193, z_ 194, z_ 195, z_ 196, z_ 197, z_ 198, z_ 199, z_ 200, z_ 201, z_ 202, z_ 203, z_ 204, z_ 205, z_ 206, z_ 207, z_ 208, z_ 209, z_ 210, z_ 211, z_ 212, z_ 213, z_ 214, z_ 215, z_ 216, z_ 217, z_ 218, z_ 219, z_ 220, z_ 221, z_ 222, z_ 223, z_ 224, z_ 225, z_ 226, z_ 227, z_ 228, z_ 229, z_ 230, z_ 231, z_ 232, z_ 233, z_ 234, z_ 235, z_ 236, z_ 237, z_ 238, z_ 239, z_ 240, z_ 241, z_ 242, z_ 243, z_ 244, z_ 245, z_ 246, z_ 247, z_ 248, z_ 249, z_ 250, z_ 251, z_ 252, z_ 253, z_ 254, z_ 255, z_ 256, .bool false, z_ 258, z_ 259, z_ 260, z_ 261, z_ 262, z_ 263, z_ 264, z_ 265, z_ 266, z_ 267, z_ 268, z_ 269, z_ 270, z_ 271, z_ 272, z_ 273, z_ 274, z_ 275, z_ 276, z_ 277, z_ 278, z_ 279, z_ 280, z_ 281, z_ 282, z_ 283, z_ 284, z_ 285, z_ 286, z_ 287, z_ 288, z_ 289, z_ 290, z_ 291, z_ 292, z_ 293, z_ 294, z_ 295, z_ 296, z_ 297, z_ 298, z_ 299, z_ 300, z_ 301], []⟩ ∧ Aside0 (St w wc [.box g19 (.cells #[.int .i64 y0, .int .i64 y1] 31 (0, 0)), .box g18 (.cells #[.int .i64 x0, .int .i64 x1] 31 (0, 0)), .box g16 (.cells #[.int .i64 y0, .int .i64 y1] 31 (0, 0)), .box g15 (.cells #[.int .i64 x0, .int .i64 x1] 31 (0, 0)), .box g13 (.cells #[.int .i64 j0, .int .i64 j1] 31 (0, 0)), .box g11 (.cells #[.int .i64 j0, .int .i64 j1] 31 (0, 0)), .box g9 (.cells #[.int .i64 m0, .int .i64 m1] 31 (0, 0)), .box g7 (.cells #[.int .i64 m0, .int .i64 m1] 31 (0, 0)), .box g6 (.cells #[.int .i64 b0, .int .i64 b1] 31 (0, 0)), .box g5 (.cells #[.int .i64 a0, .int .i64 a1] 31 (0, 0))])) ?_ ?_
      rotate_left
      · intro J_ K_ hJ_ hK_
        have cg15_0 := HS.out.cell 3 0 rfl rfl
        have cg15_1 := HS.out.cell 3 1 rfl rfl
        have cg16_0 := HS.out.cell 2 0 rfl rfl
        have cg16_1 := HS.out.cell 2 1 rfl rfl
        by_cases e1 : u < v
        · obtain ⟨r1, r2, r3, r4, r5⟩ := hU.out e1
          subst r1
          have f1 := decide_eq_true e1
          have dr2 : decide (u < x0) = false := decide_eq_false (by omega)
          have dr3 : decide (x1 < u) = false := decide_eq_false (by omega)
          have dr4 : decide (v < y0) = false := decide_eq_false (by omega)
          have dr5 : decide (y1 < v) = false := decide_eq_false (by omega)
          clear e1
          go_wp2
          exact meet_us hJ_ rfl HS
        · have f1 := decide_eq_false e1
          clear e1
          go_wp2
          exact meet_us hJ_ rfl HS
      clear HS
      rintro _ wc ⟨z_, rfl, HS⟩
      try dsimp only
      go_upto_region 28 with (fail)
      refine wp_cut (fun a' wc => ∃ z_ : Nat → Value, a' = ⟨#[.slice A0 l0.length c0, .slice A1 l1.length c1, z_ 2, z_ 3, .bool false, z_ 5, z_ 6, z_ 7, z_ 8, z_ 9, z_ 10, z_ 11, z_ 12, z_ 13, z_ 14, z_ 15, z_ 16, z_ 17, z_ 18, z_ 19, z_ 20, z_ 21, z_ 22, z_ 23, z_ 24, z_ 25, z_ 26, z_ 27, z_ 28, z_ 29, z_ 30, z_ 31, z_ 32, z_ 33, z_ 34, z_ 35, z_ 36, z_ 37, z_ 38, z_ 39, z_ 40, z_ 41, z_ 42, z_ 43, z_ 44, z_ 45, z_ 46, z_ 47, z_ 48, z_ 49, z_ 50, z_ 51, z_ 52, z_ 53, z_ 54, z_ 55, z_ 56, z_ 57, z_ 58, z_ 59, z_ 60, z_ 61, z_ 62, z_ 63, z_ 64, z_ 65, z_ 66, z_ 67, z_ 68, z_ 69, z_ 70, z_ 71, z_ 72, z_ 73, z_ 74, z_ 75, z_ 76, z_ 77, z_ 78, z_ 79, z_ 80, z_ 81, z_ 82, z_ 83, z_ 84, z_ 85, z_ 86, z_ 87, z_ 88, z_ 89, z_ 90, z_ 91, z_ 92, z_ 93, z_ 94, z_ 95, z_ 96, z_ 97, z_ 98, z_ 99, z_ 100, z_ 101, z_ 102, z_ 103, z_ 104, z_ 105, z_ 106, z_ 107, z_ 108, z_ 109, z_ 110, z_ 111, z_ 112, z_ 113, z_ 114, z_ 115, z_ 116, z_ 117, z_ 118, z_ 119, z_ 120, z_ 121, z_ 122, z_ 123, z_ 124, z_ 125, z_ 126, z_ 127, z_ 128, z_ 129, z_ 130, z_ 131, z_ 132, z_ 133, z_ 134, z_ 135, z_ 136, z_ 137, z_ 138, z_ 139, z_ 140, z_ 141, z_ 142, z_ 143, z_ 144, z_ 145, z_ 146, z_ 147, z_ 148, z_ 149, z_ 150, z_ 151, z_ 152, z_ 153, z_ 154, z_ 155, z_ 156, z_ 157, z_ 158, z_ 159, z_ 160, z_ 161, z_ 162, z_ 163, z_ 164, z_ 165, z_ 166, z_ 167, z_ 168, z_ 169, z_ 170, z_ 171, z_ 172, z_ 173, z_ 174, z_ 175, z_ 176, z_ 177, z_ 178, z_ 179, z_ 180, z_ 181, z_ 182, z_ 183, z_ 184, z_ 185, z_ 186, z_ 187, z_ 188, z_ 189, z_ 190, z_ 191, z_ 192, z_ 193, z_ 194, z_ 195, z_ 196, z_ 197, z_ 198, z_ 199, z_ 200, z_ 201, z_ 202, z_ 203, z_ 204, z_ 205, z_ 206, z_ 207, z_ 208, z_ 209, z_ 210, z_ 211, z_ 212, z_ 213, z_ 214, z_ 215, z_ 216, z_ 217, z_ 218, z_ 219, z_ 220, z_ 221, z_ 222, z_ 223, z_ 224, z_ 225, z_ 226, z_ 227, z_ 228, z_ 229, z_ 230, z_ 231, z_ 232, z_ 233, z_ 234, z_ 235, z_ 236, z_ 237, z_ 238, z_ 239, z_ 240, z_ 241, z_ 242, z_ 243, z_ 244, z_ 245, z_ 246, z_ 247, z_ 248, z_ 249, z_ 250, z_ 251, z_ 252, z_ 253, z_ 254, z_ 255, z_ 256, z_ 257, z_ 258, z_ 259, z_ 260, z_ 261, z_ 262, z_ 263, z_ 264, z_ 265, z_ 266, z_ 267, z_ 268, z_ 269, z_ 270, z_ 271, z_ 272, z_ 273, z_ 274, z_ 275, .bool false, z_ 277, z_ 278, z_ 279, z_ 280, z_ 281, z_ 282, z_ 283, z_ 284, z_ 285, z_ 286, z_ 287, z_ 288, z_ 289, z_ 290, z_ 291, z_ 292, z_ 293, z_ 294, z_ 295, z_ 296, z_ 297, z_ 298, z_ 299, z_ 300, z_ 301], []⟩ ∧ Aside0 (St w wc [.box g19 (.cells #[.int .i64 y0, .int .i64 y1] 31 (0, 0)), .box g18 (.cells #[.int .i64 x0, .int .i64 x1] 31 (0, 0)), .box g16 (.cells #[.int .i64 y0, .int .i64 y1] 31 (0, 0)), .box g15 (.cells #[.int .i64 x0, .int .i64 x1] 31 (0, 0)), .box g13 (.cells #[.int .i64 j0, .int .i64 j1] 31 (0, 0)), .box g11 (.cells #[.int .i64 j0, .int .i64 j1] 31 (0, 0)), .box g9 (.cells #[.int .i64 m0, .int .i64 m1] 31 (0, 0)), .box g7 (.cells #[.int .i64 m0, .int .i64 m1] 31 (0, 0)), .box g6 (.cells #[.int .i64 b0, .int .i64 b1] 31 (0, 0)), .box g5 (.cells #[.int .i64 a0, .int .i64 a1] 31 (0, 0))])) ?_ ?_
      rotate_left
      · intro J_ K_ hJ_ hK_
        have cg7_0 := HS.out.cell 7 0 rfl rfl
        have cg7_1 := HS.out.cell 7 1 rfl rfl
        by_cases e1 : u = v
        · obtain ⟨r1, r2, r3⟩ := hV2.out e1
          subst r1
          have f1 : (u == v) = true := by rw [e1]; exact beq_self_eq_true _
          have dr2 : decide (u < m0) = false := decide_eq_false (by omega)
          have dr3 : decide (m1 < u) = false := decide_eq_false (by omega)
          clear e1
          go_wp2
          exact meet_us hJ_ rfl HS
        · have f1 : (u == v) = false := beq_eq_false_iff_ne.2 e1
          clear e1
          go_wp2
          exact meet_us hJ_ rfl HS
      clear HS
      rintro _ wc ⟨z_, rfl, HS⟩
      try dsimp only
      go_wp2
      replace HS := Aside0.mk HS.out.nil
      exact meet_us hJ_ rfl HS
  clear HS
  rintro _ wc ⟨z_, rfl, HS⟩
  try dsimp only
  go_upto_region 30 with (fail)
  go_upto_region 31 with (first | (go_at_call 43; refine st_call HS (spec_DrawWithinStretch.calls k2 _ _ l1 c0_ c1_ d0_ d1_ _ (Kd.C_below HR1.out HS.out.below) HC1.out hD2.out) ?_; clear HS; intro W34 HS) | ((with_reducible refine gate_dst (N := 33) rfl ?_); refine st_box HS (N := 33) (cs := #[.int .i64 0, .int .i64 0]) (t := 31) ?_; clear HS; intro g33 W35 HS) | ((with_reducible refine gate_dst (N := 34) rfl ?_); refine st_box HS (N := 34) (cs := #[.int .i64 0, .int .i64 0]) (t := 31) ?_; clear HS; intro g34 W36 HS) | ((with_reducible refine gate_store (t := 31) (p := 33) rfl ?_); refine st_store HS (T := 31) (p := 33) (y := .tmp 280) rfl 1 #[.int .i64 c0_, .int .i64 c1_] rfl sz31 ?_; clear HS; intro W37 HS) | ((with_reducible refine gate_store (t := 31) (p := 34) rfl ?_); refine st_store HS (T := 31) (p := 34) (y := .tmp 281) rfl 0 #[.int .i64 d0_, .int .i64 d1_] rfl sz31 ?_; clear HS; intro W38 HS))
  go_upto_region 32 with (first | ((with_reducible refine gate_dst (N := 283) rfl ?_); refine st_load HS (T := 31) (p := 33) rfl 1 rfl Try.underlying31 sz31 ?_) | ((with_reducible refine gate_dst (N := 284) rfl ?_); refine st_load HS (T := 31) (p := 34) rfl 0 rfl Try.underlying31 sz31 ?_) | (go_at_call 28; refine st_call HS (impl_WithinStretch.calls c0_ c1_ d0_ d1_ v1 v2 _ hV.out) ?_; clear HS; intro W39 HS))
  go_upto_region 33 with (first | ((with_reducible refine gate_dst (N := 289) rfl ?_); refine st_load HS (T := 31) (p := 33) rfl 1 rfl Try.underlying31 sz31 ?_) | ((with_reducible refine gate_dst (N := 290) rfl ?_); refine st_load HS (T := 31) (p := 34) rfl 0 rfl Try.underlying31 sz31 ?_) | (go_at_call 27; refine st_call HS (spec_WithinStretch.calls c0_ c1_ d0_ d1_ v1 v2 _ hV'.out) ?_; clear HS; intro W40 HS))
  cases v2
  all_goals go_wp2
  all_goals go_ret
  all_goals exact ⟨by simp, HS.out.below⟩
set_option maxHeartbeats 8000000 in
set_option maxRecDepth 100000 in
theorem laws_FnMet.walk (a0 : Option Addr) (len0 cap0 : Nat) (z0 : List Int) (a1 : Option Addr) (len1 cap1 : Nat) (z1 : List Int) (w : World) (w0 : (a0 = none ∧ len0 = 0 ∧ cap0 = 0 ∧ z0 = []) ∨ ∃ x, a0 = some x ∧ len0 ≤ cap0 ∧ cap0 ≤ maxLen ∧ z0.length = cap0 ∧ (∀ i, i < z0.length → w.cell? (x.add i) = some (.int .u8 (z0.getD i 0))) ∧ ∀ n ∈ z0, (Lit.int .u8 n).wf = true) (y0 : len0 * 1 ≤ 140737488351232) (w1 : (a1 = none ∧ len1 = 0 ∧ cap1 = 0 ∧ z1 = []) ∨ ∃ x, a1 = some x ∧ len1 ≤ cap1 ∧ cap1 ≤ maxLen ∧ z1.length = cap1 ∧ (∀ i, i < z1.length → w.cell? (x.add i) = some (.int .u8 (z1.getD i 0))) ∧ ∀ n ∈ z1, (Lit.int .u8 n).wf = true) (y1 : len1 * 1 ≤ 140737488351232) :
    Calls Try.prog 14 #[.slice a0 len0 cap0, .slice a1 len1 cap1] w fun e w' => e = .returned (.bool true) ∧ Below w.heap.size w w' := by
  obtain ⟨l0, rfl, hr0, hm0, hw0, hc0⟩ := ReadsInt.ofRowC w0
  obtain ⟨l1, rfl, hr1, hm1, hw1, hc1⟩ := ReadsInt.ofRowC w1
  replace hr0 := Kd.C_of_reads (d := (0 : Int)) (h1 := fun _ => rfl) hr0
  replace hr1 := Kd.C_of_reads (d := (0 : Int)) (h1 := fun _ => rfl) hr1
  clear w0 w1
  by_cases hlen : (wrap64 ((l0.length : Int) + (l1.length : Int))) > 1048576
  · have c3b0 := decide_eq_true hlen
    have HB := Aside0.mk (Below.refl w.heap.size w)
    clear hlen hr0 hr1 hw0 hw1 y0 y1
    go_enter Try.func14, Try.ntmps14
    go_wp2
    go_ret
    exact ⟨rfl, HB.out⟩
  · exact laws_FnMet.small w _ _ l0 hr0 hc0 ⟨y0, hw0⟩ _ _ l1 hr1 hc1 ⟨y1, hw1⟩ hlen
end Go.Proofs.Ytpjbemdbbjjblaa.PMM
