/- juntolaw17.alive walked: the chapter's example holds. Made by mk_alive.py. -/
import Derived.Test.YtkaikgbcnmfppaaNbAliveA
namespace Go.Proofs.Ytkaikgbcnmfppaa.Nb
open Go Go.RowKit Go.Proofs.YtkaikgbcnmfppaaW.PrintWords Go.Proofs.YtkaikgbcnmfppaaW.PrintLast Go.Proofs.YtkaikgbcnmfppaaW.PrintMore
attribute [local go_sem] max2_int min2_int max_two min_two max_three min_three max_four min_four
set_option linter.unusedVariables false
set_option linter.unusedSimpArgs false
noncomputable section
set_option maxHeartbeats 8000000 in
set_option maxRecDepth 100000 in
theorem alive.calls (w : World) : Calls Try.prog 13 #[] w fun e w' => e = .returned (.bool true) ∧ Below w.heap.size w w' := by
 have hu30 := Try.underlying30
 have hu24 := Try.underlying24
 have hu72 := Try.underlying72
 obtain ⟨k, hs, hk⟩ := av_k
 have hcl := av_small
 have HS := Qz.mk hs
 have HK := Qz.mk hk
 have HCL := Qz.mk hcl
 clear hs hk hcl
 have hz1 : (w.alloc (Obj.cells #[Value.int .i64 2] 3 (0, 0))).heap.size = w.heap.size + 1 := Array.size_push _
 have hz2 : ((w.alloc (Obj.cells #[Value.int .i64 2] 3 (0, 0))).alloc (Obj.cells #[Value.int .u64 9] 22 (0, 0))).heap.size = w.heap.size + 1 + 1 := by rw [← hz1]; exact Array.size_push _
 have B11 := Qz.mk (show (((w.alloc (Obj.cells #[Value.int .i64 2] 3 (0, 0))).alloc (Obj.cells #[Value.int .u64 9] 22 (0, 0))).alloc (Obj.cells #[Value.int .i64 1, .int .i64 2, .int .i64 3, .bool false, .slice (some ⟨w.heap.size + 1, 0, none⟩) 1 1, .int .i64 1, .int .i64 2, .int .i64 0, .bool true, .slice none 0 0] 72 (0, 0))).heap[w.heap.size]? = some (.cells #[Value.int .i64 2] 3 (0, 0)) from bka (bka (blk_new w _) _) _)
 have B12 := Qz.mk (show (((w.alloc (Obj.cells #[Value.int .i64 2] 3 (0, 0))).alloc (Obj.cells #[Value.int .u64 9] 22 (0, 0))).alloc (Obj.cells #[Value.int .i64 1, .int .i64 2, .int .i64 3, .bool false, .slice (some ⟨w.heap.size + 1, 0, none⟩) 1 1, .int .i64 1, .int .i64 2, .int .i64 0, .bool true, .slice none 0 0] 72 (0, 0))).heap[w.heap.size + 1]? = some (.cells #[Value.int .u64 9] 22 (0, 0)) from by
  have h := blk_new (w.alloc (Obj.cells #[Value.int .i64 2] 3 (0, 0))) (Obj.cells #[Value.int .u64 9] 22 (0, 0))
  rw [hz1] at h
  exact bka h _)
 have B15 := Qz.mk (show (((w.alloc (Obj.cells #[Value.int .i64 2] 3 (0, 0))).alloc (Obj.cells #[Value.int .u64 9] 22 (0, 0))).alloc (Obj.cells #[Value.int .i64 1, .int .i64 2, .int .i64 3, .bool false, .slice (some ⟨w.heap.size + 1, 0, none⟩) 1 1, .int .i64 1, .int .i64 2, .int .i64 0, .bool true, .slice none 0 0] 72 (0, 0))).heap[w.heap.size + 1 + 1]? = some (.cells #[Value.int .i64 1, .int .i64 2, .int .i64 3, .bool false, .slice (some ⟨w.heap.size + 1, 0, none⟩) 1 1, .int .i64 1, .int .i64 2, .int .i64 0, .bool true, .slice none 0 0] 72 (0, 0)) from by
  have h := blk_new ((w.alloc (Obj.cells #[Value.int .i64 2] 3 (0, 0))).alloc (Obj.cells #[Value.int .u64 9] 22 (0, 0))) (Obj.cells #[Value.int .i64 1, .int .i64 2, .int .i64 3, .bool false, .slice (some ⟨w.heap.size + 1, 0, none⟩) 1 1, .int .i64 1, .int .i64 2, .int .i64 0, .bool true, .slice none 0 0] 72 (0, 0))
  rw [hz2] at h
  exact h)
 have HB := Qz.mk (show Below w.heap.size w (((w.alloc (Obj.cells #[Value.int .i64 2] 3 (0, 0))).alloc (Obj.cells #[Value.int .u64 9] 22 (0, 0))).alloc (Obj.cells #[Value.int .i64 1, .int .i64 2, .int .i64 3, .bool false, .slice (some ⟨w.heap.size + 1, 0, none⟩) 1 1, .int .i64 1, .int .i64 2, .int .i64 0, .bool true, .slice none 0 0] 72 (0, 0))) from ba1 (ba1 (ba1 (Below.refl _ _) _) _) _)
 clear hz1 hz2
 obtain ⟨wC, hwC⟩ : ∃ x, x = (((w.alloc (Obj.cells #[Value.int .i64 2] 3 (0, 0))).alloc (Obj.cells #[Value.int .u64 9] 22 (0, 0))).alloc (Obj.cells #[Value.int .i64 1, .int .i64 2, .int .i64 3, .bool false, .slice (some ⟨w.heap.size + 1, 0, none⟩) 1 1, .int .i64 1, .int .i64 2, .int .i64 0, .bool true, .slice none 0 0] 72 (0, 0))) := ⟨_, rfl⟩
 rw [← hwC] at B11 B12 B15 HB
 have HWC := Qz.mk hwC
 clear hwC
 go_enter Try.func13, Try.ntmps13
 go_upto_region 4 with (first
  | (go_at_call 15; rw [← HWC.out]; refine (new_ok k 5 11 1 (some ⟨w.heap.size, 0, none⟩) 1 [2] none 0 [] (some ⟨w.heap.size + 1 + 1, 0, none⟩) 2 avActs wC HS.out (by decide) (by decide) (by decide) (C_ints (xs := [2]) B11.out (by decide)) (by decide) (av_actsC B12.out B15.out) (by decide) (Kd.C_nil _ _) (by decide) HK.out HCL.out).mono ?_; rintro e wn ⟨A3, c3, A4, c4, A5, c5, A7, c7, rfl, hx, hbn⟩; have HX := Qz.mk (XF.of hx); have HB := Qz.mk (HB.out.trans (hbn.mono HB.out.size)); clear hx hbn)
  | ((with_reducible refine gdt (N := 1) rfl ?_); refine bxe ?hg (N := 1) ?hd (cs := #[.int .u64 0, .int .i64 0, .int .i64 0, .slice none 0 0, .slice none 0 0, .slice none 0 0, .int .i64 0, .slice none 0 0]) (t := 30) ?hr ?_; (case hd => rfl); (case hg => rfl); (case hr => first | (go_simp; done) | (go_simp; rfl)); intro g1 hg1 w1 hbox hb1; have B1 := Qz.mk hbox; have GE1 := Qz.mk (show w.heap.size ≤ g1 from by rw [hg1]; exact HB.out.size); have GE2 := Qz.mk (show wn.heap.size ≤ g1 from Nat.le_of_eq hg1.symm); have NNS := Qz.mk hb1.size; have HX := Qz.mk (HX.out.below hb1); have HB := Qz.mk (HB.out.trans (hb1.mono HB.out.size)); clear hg1 hbox hb1; have hz0 : w1.cell? ⟨g1, 0, none⟩ = some (.int .u64 0) := (bc_ B1.out 0).trans rfl; have hz1 : w1.cell? ⟨g1, 1, none⟩ = some (.int .i64 0) := (bc_ B1.out 1).trans rfl; have hz2 : w1.cell? ⟨g1, 2, none⟩ = some (.int .i64 0) := (bc_ B1.out 2).trans rfl; have hz3 : w1.cell? ⟨g1, 3, none⟩ = some (.slice none 0 0) := (bc_ B1.out 3).trans rfl; have hz4 : w1.cell? ⟨g1, 4, none⟩ = some (.slice none 0 0) := (bc_ B1.out 4).trans rfl; have hz5 : w1.cell? ⟨g1, 5, none⟩ = some (.slice none 0 0) := (bc_ B1.out 5).trans rfl; have hz6 : w1.cell? ⟨g1, 6, none⟩ = some (.int .i64 0) := (bc_ B1.out 6).trans rfl; have hz7 : w1.cell? ⟨g1, 7, none⟩ = some (.slice none 0 0) := (bc_ B1.out 7).trans rfl; have hf0 := bf_ B1.out 0; have hf1 := bf_ B1.out 1; have hf2 := bf_ B1.out 2; have hf3 := bf_ B1.out 3; have hf4 := bf_ B1.out 4; have hf5 := bf_ B1.out 5; have hf6 := bf_ B1.out 6; have hf7 := bf_ B1.out 7))
 rw [show ((((((((w1.setCell ⟨g1, 0, none⟩ (.int .u64 11)).setCell ⟨g1, 1, none⟩ (.int .i64 5)).setCell ⟨g1, 2, none⟩ (.int .i64 1)).setCell ⟨g1, 3, none⟩ (.slice A3 1 c3)).setCell ⟨g1, 4, none⟩ (.slice A4 avActs.length c4)).setCell ⟨g1, 5, none⟩ (.slice A5 5 c5)).setCell ⟨g1, 6, none⟩ (.int .i64 0)).setCell ⟨g1, 7, none⟩ (.slice A7 0 c7)) = put8 w1 g1 (.int .u64 11) (.int .i64 5) (.int .i64 1) (.slice A3 1 c3) (.slice A4 avActs.length c4) (.slice A5 5 c5) (.int .i64 0) (.slice A7 0 c7) from rfl]
 have hK1 := kept8 w1 g1 (.int .u64 11) (.int .i64 5) (.int .i64 1) (.slice A3 1 c3) (.slice A4 avActs.length c4) (.slice A5 5 c5) (.int .i64 0) (.slice A7 0 c7)
 have HB := Qz.mk (below8 HB.out GE1.out (.int .u64 11) (.int .i64 5) (.int .i64 1) (.slice A3 1 c3) (.slice A4 avActs.length c4) (.slice A5 5 c5) (.int .i64 0) (.slice A7 0 c7))
 have B1 := Qz.mk (blk8 B1.out (.int .u64 11) (.int .i64 5) (.int .i64 1) (.slice A3 1 c3) (.slice A4 avActs.length c4) (.slice A5 5 c5) (.int .i64 0) (.slice A7 0 c7))
 have HX := Qz.mk (HX.out.kept hK1 (fun k hk e => by have h1 := GE2.out; omega))
 have NN := Qz.mk (Nat.le_trans NNS.out hK1.1)
 clear hK1 hz0 hz1 hz2 hz3 hz4 hz5 hz6 hz7 hf0 hf1 hf2 hf3 hf4 hf5 hf6 hf7
 generalize hwp : put8 w1 g1 (.int .u64 11) (.int .i64 5) (.int .i64 1) (.slice A3 1 c3) (.slice A4 avActs.length c4) (.slice A5 5 c5) (.int .i64 0) (.slice A7 0 c7) = wp at HB B1 HX NN ⊢
 generalize wn.heap.size = nn at HX NN GE2
 clear hwp NNS B11 B12 B15 HWC
 go_upto_region 5 with (go_at_call 44; refine (nothing.calls 5 (by decide) (by decide) wp).mono ?_; rintro e w4 ⟨g, c, rbs, v2, rfl, hO, hR, ⟨h2, ch, rfl, hb2, hn2, hH⟩, hb⟩; have GL1 := Qz.mk (blt B1.out); have NR := Qz.mk HB.out.size; have HBS := Qz.mk hb.size; have HO := Qz.mk hO; have HR := Qz.mk hR; have HH := Qz.mk hH; have HN2 := Qz.mk hn2; have HB2 := Qz.mk hb2; have HX := Qz.mk (HX.out.below hb); have B1 := Qz.mk (bkb B1.out hb); have HB := Qz.mk (HB.out.trans (hb.mono HB.out.size)); clear hO hR hH hn2 hb2 hb)
 have NR2 := Qz.mk (show wp.heap.size ≤ w4.heap.size from HBS.out)
 generalize wp.heap.size = nr at HO HR HH HB2 NR NR2 GL1 NN
 have HR := Qz.mk (show Rows w4 nr 5 (Data w4) rbs (List.replicate 5 (List.replicate 5 [])) from ⟨HR.out.len, HR.out.once, fun j b c' L h1 h2' => by
  obtain ⟨g1, g2, g3⟩ := HR.out.row j b c' L h1 h2'
  exact ⟨g1, g2, Kd.N_mono g3 (fun k hk => hk.imp id (fun h => h.elim))⟩⟩)
 have HH := Qz.mk (show kD.N 51 w4 nr (fun k => k = h2 ∨ Data w4 k) (.slice (some ⟨h2, 0, none⟩) 5 ch) (List.replicate 5 []) from Kd.N_mono HH.out (fun k hk => .inl hk))
 have hrk : ∃ b1 c1, rbs[1]? = some (b1, c1) := by
  have h1 : 1 < rbs.length := by rw [HR.out.len]; decide
  exact ⟨rbs[1].1, rbs[1].2, by rw [List.getElem?_eq_getElem h1]⟩
 obtain ⟨b1, c1, hrk⟩ := hrk
 have HRK := Qz.mk hrk
 have AV := Qz.mk (show Av w w4 nr nn g1 g c h2 ch rbs #[.int .u64 11, .int .i64 5, .int .i64 1, .slice A3 1 c3, .slice A4 avActs.length c4, .slice A5 5 c5, .int .i64 0, .slice A7 0 c7] (List.replicate 5 (List.replicate 5 [])) (List.replicate 5 []) avX0 A3 c3 A4 c4 A5 c5 A7 c7 from ⟨HB.out, NR2.out, NR.out, HR.out, HO.out, HH.out, HN2.out, B1.out, GL1.out, HX.out, NN.out⟩)
 clear hrk HBS HR HO HH HN2 B1 HX HB
 obtain ⟨⟨uc, hc⟩, hf⟩ := row_cell (AV.out.hr.row 1 b1 c1 _ HRK.out rfl).2.2 (i := 2) (by decide)
 have hlt := AV.out.hr.lt (List.mem_map.2 ⟨(b1, c1), List.mem_of_getElem? HRK.out, rfl⟩)
 have hs := AV.out.cell1 HRK.out (by decide)
 have hc' := lit_cell 4 hc
 have hf' := lit_frozen 4 hlt hf
 clear hc hf hlt
 go_upto_region 6 with (fail)
 rw [show (w4.alloc (Obj.cells #[Value.int .u64 4] 22 (0, 0))).setCell ⟨b1, 2, none⟩ (.slice (some ⟨w4.heap.size, 0, none⟩) 1 1) = litW w4 b1 2 4 from rfl]
 have AV := Qz.mk (AV.out.put1 (i := 2) HRK.out (L := avT) rfl (by decide) 4)
 clear hs hc' hf'
 generalize litW w4 b1 2 4 = w5 at AV ⊢
 obtain ⟨⟨uc, hc⟩, hf⟩ := row_cell (AV.out.hr.row 1 b1 c1 _ HRK.out rfl).2.2 (i := 3) (by decide)
 have hlt := AV.out.hr.lt (List.mem_map.2 ⟨(b1, c1), List.mem_of_getElem? HRK.out, rfl⟩)
 have hs := AV.out.cell1 HRK.out (by decide)
 have hc' := lit_cell 4 hc
 have hf' := lit_frozen 4 hlt hf
 clear hc hf hlt
 go_upto_region 7 with (fail)
 rw [show (w5.alloc (Obj.cells #[Value.int .u64 4] 22 (0, 0))).setCell ⟨b1, 3, none⟩ (.slice (some ⟨w5.heap.size, 0, none⟩) 1 1) = litW w5 b1 3 4 from rfl]
 have AV := Qz.mk (AV.out.put1 (i := 3) HRK.out (L := [[], [], [4], [], []]) rfl (by decide) 4)
 clear hs hc' hf'
 generalize litW w5 b1 3 4 = w6 at AV ⊢
 obtain ⟨⟨uc, hc⟩, hf⟩ := row_cell AV.out.hh (i := 1) (by decide)
 have hlt := Kd.N_lt AV.out.hh h2 (by simp [Value.ownBlock])
 have hc' := lit_cell 7 hc
 have hf' := lit_frozen 7 hlt hf
 clear hc hf hlt
 go_upto_region 8 with (fail)
 rw [show (w6.alloc (Obj.cells #[Value.int .u64 7] 22 (0, 0))).setCell ⟨h2, 1, none⟩ (.slice (some ⟨w6.heap.size, 0, none⟩) 1 1) = litW w6 h2 1 7 from rfl]
 have AV := Qz.mk (show Av w (litW w6 h2 1 7) nr nn g1 g c h2 ch rbs #[.int .u64 11, .int .i64 5, .int .i64 1, .slice A3 1 c3, .slice A4 avActs.length c4, .slice A5 5 c5, .int .i64 0, .slice A7 0 c7] avP avS avX0 A3 c3 A4 c4 A5 c5 A7 c7 from AV.out.put2 HB2.out (i := 1) (by decide) 7)
 clear hc' hf'
 generalize litW w6 h2 1 7 = w7 at AV ⊢
 have hx0 : w7.cell? ⟨g1, 0, none⟩ = some (.int .u64 11) := (bc_ AV.out.b1 0).trans rfl
 have hx1 : w7.cell? ⟨g1, 1, none⟩ = some (.int .i64 5) := (bc_ AV.out.b1 1).trans rfl
 have hx2 : w7.cell? ⟨g1, 2, none⟩ = some (.int .i64 1) := (bc_ AV.out.b1 2).trans rfl
 have hx3 : w7.cell? ⟨g1, 3, none⟩ = some (.slice A3 1 c3) := (bc_ AV.out.b1 3).trans rfl
 have hx4 : w7.cell? ⟨g1, 4, none⟩ = some (.slice A4 avActs.length c4) := (bc_ AV.out.b1 4).trans rfl
 have hx5 : w7.cell? ⟨g1, 5, none⟩ = some (.slice A5 5 c5) := (bc_ AV.out.b1 5).trans rfl
 have hx6 : w7.cell? ⟨g1, 6, none⟩ = some (.int .i64 0) := (bc_ AV.out.b1 6).trans rfl
 have hx7 : w7.cell? ⟨g1, 7, none⟩ = some (.slice A7 0 c7) := (bc_ AV.out.b1 7).trans rfl
 go_upto_region 9 with (go_at_call 20; refine (av_exch (k := k) AV.out.hx.K HK.out HCL.out (rows_C AV.out.hr AV.out.ho).1 (Kd.N_reads' AV.out.hh).2.2).mono ?_; rintro e w8 ⟨G1, d1, G2, d2, E3, e3, E4, e4, E5, e5, E7, e7, rfl, hG1, hd1, hG2, hd2, hxx, hbb⟩; have HG1 := Qz.mk hG1; have HG2 := Qz.mk hG2; have HD1 := Qz.mk hd1; have HD2 := Qz.mk hd2; have HX := Qz.mk hxx; have B1 := Qz.mk (bkb AV.out.b1 hbb); have GB1 := Qz.mk (show g1 < w7.heap.size from Nat.lt_of_lt_of_le AV.out.gl AV.out.nr2); have HB := Qz.mk (AV.out.hb.trans (hbb.mono AV.out.hb.size)); clear hG1 hG2 hd1 hd2 hxx hbb AV; have hy0 : w8.cell? ⟨g1, 0, none⟩ = some (.int .u64 11) := (bc_ B1.out 0).trans rfl; have hy1 : w8.cell? ⟨g1, 1, none⟩ = some (.int .i64 5) := (bc_ B1.out 1).trans rfl; have hy2 : w8.cell? ⟨g1, 2, none⟩ = some (.int .i64 1) := (bc_ B1.out 2).trans rfl; have hy3 : w8.cell? ⟨g1, 3, none⟩ = some (.slice A3 1 c3) := (bc_ B1.out 3).trans rfl; have hy4 : w8.cell? ⟨g1, 4, none⟩ = some (.slice A4 avActs.length c4) := (bc_ B1.out 4).trans rfl; have hy5 : w8.cell? ⟨g1, 5, none⟩ = some (.slice A5 5 c5) := (bc_ B1.out 5).trans rfl; have hy6 : w8.cell? ⟨g1, 6, none⟩ = some (.int .i64 0) := (bc_ B1.out 6).trans rfl; have hy7 : w8.cell? ⟨g1, 7, none⟩ = some (.slice A7 0 c7) := (bc_ B1.out 7).trans rfl; have hz0 := bf_ B1.out 0; have hz1 := bf_ B1.out 1; have hz2 := bf_ B1.out 2; have hz3 := bf_ B1.out 3; have hz4 := bf_ B1.out 4; have hz5 := bf_ B1.out 5; have hz6 := bf_ B1.out 6; have hz7 := bf_ B1.out 7)
 rw [show ((((((((w8.setCell ⟨g1, 0, none⟩ (.int .u64 avX1.f0.f0)).setCell ⟨g1, 1, none⟩ (.int .i64 avX1.f0.f1)).setCell ⟨g1, 2, none⟩ (.int .i64 avX1.f0.f2)).setCell ⟨g1, 3, none⟩ (.slice E3 avX1.f1.length e3)).setCell ⟨g1, 4, none⟩ (.slice E4 avX1.f2.length e4)).setCell ⟨g1, 5, none⟩ (.slice E5 avX1.f3.length e5)).setCell ⟨g1, 6, none⟩ (.int .i64 avX1.f4)).setCell ⟨g1, 7, none⟩ (.slice E7 avX1.f5.length e7)) = put8 w8 g1 (.int .u64 avX1.f0.f0) (.int .i64 avX1.f0.f1) (.int .i64 avX1.f0.f2) (.slice E3 avX1.f1.length e3) (.slice E4 avX1.f2.length e4) (.slice E5 avX1.f3.length e5) (.int .i64 avX1.f4) (.slice E7 avX1.f5.length e7) from rfl]
 have hK1 := kept8 w8 g1 (.int .u64 avX1.f0.f0) (.int .i64 avX1.f0.f1) (.int .i64 avX1.f0.f2) (.slice E3 avX1.f1.length e3) (.slice E4 avX1.f2.length e4) (.slice E5 avX1.f3.length e5) (.int .i64 avX1.f4) (.slice E7 avX1.f5.length e7)
 have HB := Qz.mk (below8 HB.out GE1.out (.int .u64 avX1.f0.f0) (.int .i64 avX1.f0.f1) (.int .i64 avX1.f0.f2) (.slice E3 avX1.f1.length e3) (.slice E4 avX1.f2.length e4) (.slice E5 avX1.f3.length e5) (.int .i64 avX1.f4) (.slice E7 avX1.f5.length e7))
 have HG1 := Qz.mk (typF_kept HG1.out hK1 B1.out)
 have HG2 := Qz.mk (typF_kept HG2.out hK1 B1.out)
 have B1 := Qz.mk (blk8 B1.out (.int .u64 avX1.f0.f0) (.int .i64 avX1.f0.f1) (.int .i64 avX1.f0.f2) (.slice E3 avX1.f1.length e3) (.slice E4 avX1.f2.length e4) (.slice E5 avX1.f3.length e5) (.int .i64 avX1.f4) (.slice E7 avX1.f5.length e7))
 clear hK1 hx0 hx1 hx2 hx3 hx4 hx5 hx6 hx7 hy0 hy1 hy2 hy3 hy4 hy5 hy6 hy7 hz0 hz1 hz2 hz3 hz4 hz5 hz6 hz7
 generalize hw9 : put8 w8 g1 (.int .u64 avX1.f0.f0) (.int .i64 avX1.f0.f1) (.int .i64 avX1.f0.f2) (.slice E3 avX1.f1.length e3) (.slice E4 avX1.f2.length e4) (.slice E5 avX1.f3.length e5) (.int .i64 avX1.f4) (.slice E7 avX1.f5.length e7) = w9 at HB B1 HG1 HG2 ⊢
 clear hw9
 go_upto_region 10 with (go_at_call 26; refine (net_Read.calls 60 11 (some ⟨w9.heap.size, 0, none⟩) 1 [12] 2 [1, 0] 0 _ (lit_C w9 12) (by decide) av_read).mono ?_; rintro e w10 ⟨v0, rfl, hR, hbr⟩; obtain ⟨Ar, cr, rfl⟩ := Kd.R_slice hR; have HBR := Qz.mk (show Below w9.heap.size w9 w10 from (ba1 (Below.refl _ _) _).trans (hbr.mono (Nat.le_of_lt (by show w9.heap.size < (w9.alloc _).heap.size; exact Nat.lt_of_lt_of_eq (Nat.lt_succ_self _) (Array.size_push _).symm)))); have HR := Qz.mk (Kd.R_reads' hR); have HRL := Qz.mk (show 2 ≤ cr from HR.out.2.1); clear hR hbr)
 have HB := Qz.mk (HB.out.trans (HBR.out.mono HB.out.size))
 have B1 := Qz.mk (bkb B1.out HBR.out)
 have HG1 := Qz.mk (show (Kd.slice 51 kD).C w10 G1 5 avCame from Kd.C_below (Kd.F_now HG1.out) HBR.out)
 have HG2 := Qz.mk (show kD.C w10 G2 5 avHeard from Kd.C_below (Kd.F_now HG2.out) HBR.out)
 have hx6 : w10.cell? ⟨g1, 6, none⟩ = some (.int .i64 1) := (bc_ B1.out 6).trans rfl
 have hx7 : w10.cell? ⟨g1, 7, none⟩ = some (.slice E7 2 e7) := (bc_ B1.out 7).trans rfl
 obtain ⟨ad, X2, k2, eG, hr2, hl2, hC2⟩ := at_M5 HG1.out 2 (by decide) (by decide)
 obtain ⟨ad', X3, k3, eG', hr3, hl3, hC3⟩ := at_M5 HG1.out 3 (by decide) (by decide)
 subst eG
 cases eG'
 obtain ⟨ad2, Y2, m2, e2, hy2, hm2, hD2⟩ := at_M2 hC2 1 (by decide) (by decide)
 obtain ⟨ad3, Y3, m3, e3', hy3, hm3, hD3⟩ := at_M2 hC3 1 (by decide) (by decide)
 obtain ⟨ad4, Y4, m4, e4', hy4, hm4, hD4⟩ := at_M2 HG2.out 1 (by decide) (by decide)
 subst e2 e3' e4'
 replace hr2 : w10.cell? ⟨ad.block, ad.off + 2, none⟩ = some (.slice (some ad2) 5 k2) := hr2
 replace hr3 : w10.cell? ⟨ad.block, ad.off + 3, none⟩ = some (.slice (some ad3) 5 k3) := hr3
 replace hy2 : w10.cell? ⟨ad2.block, ad2.off + 1, none⟩ = some (.slice Y2 1 m2) := hy2
 replace hy3 : w10.cell? ⟨ad3.block, ad3.off + 1, none⟩ = some (.slice Y3 1 m3) := hy3
 replace hy4 : w10.cell? ⟨ad4.block, ad4.off + 1, none⟩ = some (.slice Y4 0 m4) := hy4
 have HY2 := Qz.mk (show (Kd.int .u64).C w10 Y2 1 [9] from hD2)
 have HY3 := Qz.mk (show (Kd.int .u64).C w10 Y3 1 [4] from hD3)
 have HM2 := Qz.mk (show 1 ≤ m2 from hm2)
 have HM3 := Qz.mk (show 1 ≤ m3 from hm3)
 clear hl2 hC2 hl3 hC3 hm2 hm3 hm4 hD2 hD3 hD4
 simp only [show avCame.length = 5 from rfl, show avHeard.length = 5 from rfl]
 have tok1 : True := trivial
 go_wp2_with (first
  | (go_at_call 28; have _t := tok1; refine (j1S.calls 5 Y2 m2 [9] (some ⟨w10.heap.size, 0, none⟩) 1 [9] true _ (Kd.C_below HY2.out (ba1 (Below.refl _ _) _)) HM2.out (lit_C w10 9) (by decide) av_same1).mono ?_; rintro e w11 ⟨rfl, hdr⟩; have hb11 := same_below hdr; have hr3b := bcel hb11 hr3; have hy3b := bcel hb11 hy3; have hy4b := bcel hb11 hy4; have HB := Qz.mk (HB.out.trans (hb11.mono HB.out.size)); have HY3 := Qz.mk (Kd.C_below HY3.out hb11); have HR := Qz.mk (Kd.C_below HR.out.2.2 hb11); clear hdr hb11 hr2 hr3 hy2 hy3 hy4 hx6 hx7 tok1; have tok2 : True := trivial)
  | (go_at_call 28; have _t := tok2; refine (j1S.calls 5 Y3 m3 [4] (some ⟨w11.heap.size, 0, none⟩) 1 [4] true _ (Kd.C_below HY3.out (ba1 (Below.refl _ _) _)) HM3.out (lit_C w11 4) (by decide) av_same2).mono ?_; rintro e w12 ⟨rfl, hdr⟩; have hb12 := same_below hdr; have hy4c := bcel hb12 hy4b; have HB := Qz.mk (HB.out.trans (hb12.mono HB.out.size)); have HR := Qz.mk (Kd.C_below HR.out hb12); clear hdr hb12 hr3b hy3b hy4b tok2; have tok3 : True := trivial)
  | (go_at_call 28; have _t := tok3; refine (j1S.calls 5 Ar cr [1, 0] (some ⟨w12.heap.size, 0, none⟩) 2 [1, 0] true _ (Kd.C_below HR.out (ba1 (Below.refl _ _) _)) HRL.out (lit_C2 w12 1 0) (by decide) av_same3).mono ?_; rintro e w13 ⟨rfl, hdr⟩; have HB := Qz.mk (HB.out.trans ((same_below hdr).mono HB.out.size)); clear hdr))
 go_ret
 exact ⟨rfl, HB.out⟩
end
end Go.Proofs.Ytkaikgbcnmfppaa.Nb
