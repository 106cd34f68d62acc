/- juntolaw17.NetBegins walked. Made by mk_begins.py. -/
import Derived.Test.YtkaikgbcnmfppaaNbBeginsA
import Derived.Test.YtkaikgbcnmfppaaNbRefClone
import Derived.Test.YtkaikgbcnmfppaaNbAlive
namespace Go.Proofs.Ytkaikgbcnmfppaa.Nb
open Go Go.RowKit Go.Proofs.YtkaikgbcnmfppaaW.PrintWords Go.Proofs.YtkaikgbcnmfppaaW.PrintLast Go.Proofs.YtkaikgbcnmfppaaW.PrintMore
attribute [local go_sem] max2_int min2_int max_two min_two max_three min_three max_four min_four
set_option linter.unusedVariables false
set_option linter.unusedSimpArgs false
noncomputable section
/-- The arguments of New, as a world. -/
def own30 (co : List Int) (ta : List (List Int)) (ac : List S72) : S30 := ⟨⟨0, 0, 0⟩, co, ac, ta, 0, []⟩
theorem own30_wf {co : List Int} {ta : List (List Int)} {ac : List S72} (wc : WfI co) (wt : WfT ta) (wa : WfA ac) : Wf30 (own30 co ta ac) :=
 ⟨z30_wf.s, wc, wa, wt, z30_wf.r, z30_wf.se⟩
set_option maxHeartbeats 16000000 in
set_option maxRecDepth 100000 in
theorem begins.calls (s : S24) (ws : Wf24 s) (A1 : Option Addr) (c1 : Nat) (co : List Int) (wc : WfI co) (A2 : Option Addr) (c2 : Nat) (ta : List (List Int)) (wt : WfT ta) (A3 : Option Addr) (c3 : Nat) (ac : List S72) (wa : WfA ac) (w : World)
  (h1 : (Kd.int .i64).C w A1 co.length co) (h1l : co.length ≤ c1) (h2 : kD.C w A2 ta.length ta) (h2l : ta.length ≤ c2) (h3 : k72.C w A3 ac.length ac) (h3l : ac.length ≤ c3) :
  Calls Try.prog 4 #[.agg #[.int .u64 s.f0, .int .i64 s.f1, .int .i64 s.f2], .slice A1 co.length c1, .slice A2 ta.length c2, .slice A3 ac.length c3] w fun e w' => e = .returned (.bool true) ∧ Below w.heap.size w w' := by
 have hu30 := Try.underlying30
 have hu24 := Try.underlying24
 have hwf := newV_wf ws wc wt wa
 have HNEW := Aside0.mk (fun (w' : World) (hb : Below w.heap.size w w') => new_all ws A1 c1 wc A2 c2 wt A3 c3 wa w' (Kd.C_below h1 hb) h1l (Kd.C_below h3 hb) h3l (Kd.C_below h2 hb) h2l)
 have HREF := Aside0.mk (fun (w' : World) (hb : Below w.heap.size w w') => refNew_all ws A1 c1 wc A2 c2 wt A3 c3 wa w' (Kd.C_below h1 hb) h1l (Kd.C_below h3 hb) h3l (Kd.C_below h2 hb) h2l)
 rcases hV : newV s co ta ac with ⟨x1, er⟩
 rw [hV] at hwf HNEW HREF
 simp only at hwf HNEW HREF
 have HFT := Aside0.mk hwf.fit
 have HWO := Aside0.mk (own30_wf wc wt wa)
 have HKO := Aside0.mk (fun (w' : World) (hb : Below w.heap.size w w') => (k30_mk w' (own30 co ta ac) h1l (Kd.C_below h1 hb) h3l (Kd.C_below h3 hb) h2l (Kd.C_below h2 hb) (Nat.le_refl _) (Kd.C_nil _ _) : k30.K w' (own30 co ta ac) (wv (own30 co ta ac) A1 c1 A3 c3 A2 c2 none 0).toList))
 have hee : (er == er) = true := by simp
 clear hV hwf h1 h1l h2 h2l h3 h3l wc wt wa ws
 go_enter Try.func4, Try.ntmps4
 go_upto_region 2 with (first
   | ((with_reducible refine gate_dst (N := 4) rfl ?_); refine box_event ?hg (N := 4) ?hd (cs := #[.int .u64 s.f0, .int .i64 s.f1, .int .i64 s.f2]) (t := 24) ?hr ?_; (case hd => rfl); (case hg => rfl); (case hr => first | (go_simp; done) | (go_simp; rfl)); intro g4 hg4 w4 hbox hb4; have B4 := Aside0.mk hbox; have HB := Aside0.mk hb4; clear hg4 hbox hb4; have hy0 : w4.cell? ⟨g4, 0, none⟩ = some (.int .u64 s.f0) := (blk_cell B4.out 0).trans rfl; have hy1 : w4.cell? ⟨g4, 1, none⟩ = some (.int .i64 s.f1) := (blk_cell B4.out 1).trans rfl; have hy2 : w4.cell? ⟨g4, 2, none⟩ = some (.int .i64 s.f2) := (blk_cell B4.out 2).trans rfl)
   | (go_at_call 14; refine (refClone.calls (own30 co ta ac) HWO.out A1 c1 A3 c3 A2 c2 none 0 w4 (HKO.out w4 HB.out)).mono ?_; rintro e w5 ⟨D3, d3, D4, d4, D5, d5, D7, d7, rfl, hxx, hbb⟩; have HO := Aside0.mk (XF.of hxx); have B4 := Aside0.mk (blk_below B4.out hbb); have HB := Aside0.mk (HB.out.trans (hbb.mono HB.out.size)); clear hxx hbb hy0 hy1 hy2)
   | ((with_reducible refine gate_dst (N := 9) rfl ?_); refine box_event ?hg (N := 9) ?hd (cs := #[.int .u64 0, .int .i64 0, .int .i64 0, .slice none 0 0, .slice none 0 0, .slice none 0 0, .int .i64 0, .slice none 0 0]) (t := 30) ?hr ?_; (case hd => rfl); (case hg => rfl); (case hr => first | (go_simp; done) | (go_simp; rfl)); intro g9 hg9 w109 hbox hb9; have B9 := Aside0.mk hbox; have GE9 := Aside0.mk (show w5.heap.size ≤ g9 from Nat.le_of_eq hg9.symm); have HBn := Aside0.mk hb9; clear hg9 hbox hb9; have hz0 : w109.cell? ⟨g9, 0, none⟩ = some (.int .u64 0) := (blk_cell B9.out 0).trans rfl; have hz1 : w109.cell? ⟨g9, 1, none⟩ = some (.int .i64 0) := (blk_cell B9.out 1).trans rfl; have hz2 : w109.cell? ⟨g9, 2, none⟩ = some (.int .i64 0) := (blk_cell B9.out 2).trans rfl; have hz3 : w109.cell? ⟨g9, 3, none⟩ = some (.slice none 0 0) := (blk_cell B9.out 3).trans rfl; have hz4 : w109.cell? ⟨g9, 4, none⟩ = some (.slice none 0 0) := (blk_cell B9.out 4).trans rfl; have hz5 : w109.cell? ⟨g9, 5, none⟩ = some (.slice none 0 0) := (blk_cell B9.out 5).trans rfl; have hz6 : w109.cell? ⟨g9, 6, none⟩ = some (.int .i64 0) := (blk_cell B9.out 6).trans rfl; have hz7 : w109.cell? ⟨g9, 7, none⟩ = some (.slice none 0 0) := (blk_cell B9.out 7).trans rfl; have hf0 := blk_frozen B9.out 0; have hf1 := blk_frozen B9.out 1; have hf2 := blk_frozen B9.out 2; have hf3 := blk_frozen B9.out 3; have hf4 := blk_frozen B9.out 4; have hf5 := blk_frozen B9.out 5; have hf6 := blk_frozen B9.out 6; have hf7 := blk_frozen B9.out 7))
 rw [show ((((((((w109.setCell ⟨g9, 0, none⟩ (.int .u64 (own30 co ta ac).f0.f0)).setCell ⟨g9, 1, none⟩ (.int .i64 (own30 co ta ac).f0.f1)).setCell ⟨g9, 2, none⟩ (.int .i64 (own30 co ta ac).f0.f2)).setCell ⟨g9, 3, none⟩ (.slice D3 (own30 co ta ac).f1.length d3)).setCell ⟨g9, 4, none⟩ (.slice D4 (own30 co ta ac).f2.length d4)).setCell ⟨g9, 5, none⟩ (.slice D5 (own30 co ta ac).f3.length d5)).setCell ⟨g9, 6, none⟩ (.int .i64 (own30 co ta ac).f4)).setCell ⟨g9, 7, none⟩ (.slice D7 (own30 co ta ac).f5.length d7)) = put8 w109 g9 (.int .u64 0) (.int .i64 0) (.int .i64 0) (.slice D3 co.length d3) (.slice D4 ac.length d4) (.slice D5 ta.length d5) (.int .i64 0) (.slice D7 0 d7) from rfl]
 have HBn := Aside0.mk (below8 HBn.out GE9.out (.int .u64 0) (.int .i64 0) (.int .i64 0) (.slice D3 co.length d3) (.slice D4 ac.length d4) (.slice D5 ta.length d5) (.int .i64 0) (.slice D7 0 d7))
 have B9 := Aside0.mk (blk8 B9.out (.int .u64 0) (.int .i64 0) (.int .i64 0) (.slice D3 co.length d3) (.slice D4 ac.length d4) (.slice D5 ta.length d5) (.int .i64 0) (.slice D7 0 d7))
 clear hz0 hz1 hz2 hz3 hz4 hz5 hz6 hz7 hf0 hf1 hf2 hf3 hf4 hf5 hf6 hf7
 generalize hwq : put8 w109 g9 (.int .u64 0) (.int .i64 0) (.int .i64 0) (.slice D3 co.length d3) (.slice D4 ac.length d4) (.slice D5 ta.length d5) (.int .i64 0) (.slice D7 0 d7) = wA at HBn B9 ⊢
 clear hwq
 have B4 := Aside0.mk (blk_below B4.out HBn.out)
 have HO := Aside0.mk (HO.out.step (fun k hk hlt => HBn.out.block k hlt))
 have HB := Aside0.mk (HB.out.trans (HBn.out.mono HB.out.size))
 clear HBn GE9
 have hy0 : wA.cell? ⟨g4, 0, none⟩ = some (.int .u64 s.f0) := (blk_cell B4.out 0).trans rfl
 have hy1 : wA.cell? ⟨g4, 1, none⟩ = some (.int .i64 s.f1) := (blk_cell B4.out 1).trans rfl
 have hy2 : wA.cell? ⟨g4, 2, none⟩ = some (.int .i64 s.f2) := (blk_cell B4.out 2).trans rfl
 go_upto_region 3 with (first
   | (go_at_call 15; refine (HNEW.out wA HB.out).mono ?_; rintro e w6 ⟨E3, e3, E4, e4, E5, e5, E7, e7, rfl, hxx, hbb⟩; have H1 := Aside0.mk (XF.of hxx); have B4 := Aside0.mk (blk_below B4.out hbb); have B9 := Aside0.mk (blk_below B9.out hbb); have HO := Aside0.mk (HO.out.step (fun k hk hlt => hbb.block k hlt)); have HB := Aside0.mk (HB.out.trans (hbb.mono HB.out.size)); clear hxx hbb hy0 hy1 hy2)
   | ((with_reducible refine gate_dst (N := 10) rfl ?_); refine box_event ?hg (N := 10) ?hd (cs := #[.int .u64 0, .int .i64 0, .int .i64 0, .slice none 0 0, .slice none 0 0, .slice none 0 0, .int .i64 0, .slice none 0 0]) (t := 30) ?hr ?_; (case hd => rfl); (case hg => rfl); (case hr => first | (go_simp; done) | (go_simp; rfl)); intro g10 hg10 w110 hbox hb10; have B10 := Aside0.mk hbox; have GE10 := Aside0.mk (show w6.heap.size ≤ g10 from Nat.le_of_eq hg10.symm); have HBn := Aside0.mk hb10; clear hg10 hbox hb10; have hz0 : w110.cell? ⟨g10, 0, none⟩ = some (.int .u64 0) := (blk_cell B10.out 0).trans rfl; have hz1 : w110.cell? ⟨g10, 1, none⟩ = some (.int .i64 0) := (blk_cell B10.out 1).trans rfl; have hz2 : w110.cell? ⟨g10, 2, none⟩ = some (.int .i64 0) := (blk_cell B10.out 2).trans rfl; have hz3 : w110.cell? ⟨g10, 3, none⟩ = some (.slice none 0 0) := (blk_cell B10.out 3).trans rfl; have hz4 : w110.cell? ⟨g10, 4, none⟩ = some (.slice none 0 0) := (blk_cell B10.out 4).trans rfl; have hz5 : w110.cell? ⟨g10, 5, none⟩ = some (.slice none 0 0) := (blk_cell B10.out 5).trans rfl; have hz6 : w110.cell? ⟨g10, 6, none⟩ = some (.int .i64 0) := (blk_cell B10.out 6).trans rfl; have hz7 : w110.cell? ⟨g10, 7, none⟩ = some (.slice none 0 0) := (blk_cell B10.out 7).trans rfl; have hf0 := blk_frozen B10.out 0; have hf1 := blk_frozen B10.out 1; have hf2 := blk_frozen B10.out 2; have hf3 := blk_frozen B10.out 3; have hf4 := blk_frozen B10.out 4; have hf5 := blk_frozen B10.out 5; have hf6 := blk_frozen B10.out 6; have hf7 := blk_frozen B10.out 7))
 rw [show ((((((((w110.setCell ⟨g10, 0, none⟩ (.int .u64 x1.f0.f0)).setCell ⟨g10, 1, none⟩ (.int .i64 x1.f0.f1)).setCell ⟨g10, 2, none⟩ (.int .i64 x1.f0.f2)).setCell ⟨g10, 3, none⟩ (.slice E3 x1.f1.length e3)).setCell ⟨g10, 4, none⟩ (.slice E4 x1.f2.length e4)).setCell ⟨g10, 5, none⟩ (.slice E5 x1.f3.length e5)).setCell ⟨g10, 6, none⟩ (.int .i64 x1.f4)).setCell ⟨g10, 7, none⟩ (.slice E7 x1.f5.length e7)) = put8 w110 g10 (.int .u64 x1.f0.f0) (.int .i64 x1.f0.f1) (.int .i64 x1.f0.f2) (.slice E3 x1.f1.length e3) (.slice E4 x1.f2.length e4) (.slice E5 x1.f3.length e5) (.int .i64 x1.f4) (.slice E7 x1.f5.length e7) from rfl]
 have HBn := Aside0.mk (below8 HBn.out GE10.out (.int .u64 x1.f0.f0) (.int .i64 x1.f0.f1) (.int .i64 x1.f0.f2) (.slice E3 x1.f1.length e3) (.slice E4 x1.f2.length e4) (.slice E5 x1.f3.length e5) (.int .i64 x1.f4) (.slice E7 x1.f5.length e7))
 have B10 := Aside0.mk (blk8 B10.out (.int .u64 x1.f0.f0) (.int .i64 x1.f0.f1) (.int .i64 x1.f0.f2) (.slice E3 x1.f1.length e3) (.slice E4 x1.f2.length e4) (.slice E5 x1.f3.length e5) (.int .i64 x1.f4) (.slice E7 x1.f5.length e7))
 clear hz0 hz1 hz2 hz3 hz4 hz5 hz6 hz7 hf0 hf1 hf2 hf3 hf4 hf5 hf6 hf7
 generalize hwq : put8 w110 g10 (.int .u64 x1.f0.f0) (.int .i64 x1.f0.f1) (.int .i64 x1.f0.f2) (.slice E3 x1.f1.length e3) (.slice E4 x1.f2.length e4) (.slice E5 x1.f3.length e5) (.int .i64 x1.f4) (.slice E7 x1.f5.length e7) = wB at HBn B10 ⊢
 clear hwq
 have B4 := Aside0.mk (blk_below B4.out HBn.out)
 have B9 := Aside0.mk (blk_below B9.out HBn.out)
 have HO := Aside0.mk (HO.out.step (fun k hk hlt => HBn.out.block k hlt))
 have H1 := Aside0.mk (H1.out.step (fun k hk hlt => HBn.out.block k hlt))
 have HB := Aside0.mk (HB.out.trans (HBn.out.mono HB.out.size))
 clear HBn GE10
 have hy0 : wB.cell? ⟨g4, 0, none⟩ = some (.int .u64 s.f0) := (blk_cell B4.out 0).trans rfl
 have hy1 : wB.cell? ⟨g4, 1, none⟩ = some (.int .i64 s.f1) := (blk_cell B4.out 1).trans rfl
 have hy2 : wB.cell? ⟨g4, 2, none⟩ = some (.int .i64 s.f2) := (blk_cell B4.out 2).trans rfl
 go_upto_region 4 with (first
   | (go_at_call 16; refine (HREF.out wB HB.out).mono ?_; rintro e w7 ⟨F3, f3, F4, f4, F5, f5, F7, f7, rfl, hxx, hbb⟩; have H2 := Aside0.mk (XF.of hxx); have B9 := Aside0.mk (blk_below B9.out hbb); have B10 := Aside0.mk (blk_below B10.out hbb); have HO := Aside0.mk (HO.out.step (fun k hk hlt => hbb.block k hlt)); have H1 := Aside0.mk (H1.out.step (fun k hk hlt => hbb.block k hlt)); have HB := Aside0.mk (HB.out.trans (hbb.mono HB.out.size)); clear hxx hbb hy0 hy1 hy2)
   | ((with_reducible refine gate_dst (N := 12) rfl ?_); refine box_event ?hg (N := 12) ?hd (cs := #[.int .u64 0, .int .i64 0, .int .i64 0, .slice none 0 0, .slice none 0 0, .slice none 0 0, .int .i64 0, .slice none 0 0]) (t := 30) ?hr ?_; (case hd => rfl); (case hg => rfl); (case hr => first | (go_simp; done) | (go_simp; rfl)); intro g12 hg12 w112 hbox hb12; have B12 := Aside0.mk hbox; have GE12 := Aside0.mk (show w7.heap.size ≤ g12 from Nat.le_of_eq hg12.symm); have HBn := Aside0.mk hb12; clear hg12 hbox hb12; have hz0 : w112.cell? ⟨g12, 0, none⟩ = some (.int .u64 0) := (blk_cell B12.out 0).trans rfl; have hz1 : w112.cell? ⟨g12, 1, none⟩ = some (.int .i64 0) := (blk_cell B12.out 1).trans rfl; have hz2 : w112.cell? ⟨g12, 2, none⟩ = some (.int .i64 0) := (blk_cell B12.out 2).trans rfl; have hz3 : w112.cell? ⟨g12, 3, none⟩ = some (.slice none 0 0) := (blk_cell B12.out 3).trans rfl; have hz4 : w112.cell? ⟨g12, 4, none⟩ = some (.slice none 0 0) := (blk_cell B12.out 4).trans rfl; have hz5 : w112.cell? ⟨g12, 5, none⟩ = some (.slice none 0 0) := (blk_cell B12.out 5).trans rfl; have hz6 : w112.cell? ⟨g12, 6, none⟩ = some (.int .i64 0) := (blk_cell B12.out 6).trans rfl; have hz7 : w112.cell? ⟨g12, 7, none⟩ = some (.slice none 0 0) := (blk_cell B12.out 7).trans rfl; have hf0 := blk_frozen B12.out 0; have hf1 := blk_frozen B12.out 1; have hf2 := blk_frozen B12.out 2; have hf3 := blk_frozen B12.out 3; have hf4 := blk_frozen B12.out 4; have hf5 := blk_frozen B12.out 5; have hf6 := blk_frozen B12.out 6; have hf7 := blk_frozen B12.out 7))
 rw [show ((((((((w112.setCell ⟨g12, 0, none⟩ (.int .u64 x1.f0.f0)).setCell ⟨g12, 1, none⟩ (.int .i64 x1.f0.f1)).setCell ⟨g12, 2, none⟩ (.int .i64 x1.f0.f2)).setCell ⟨g12, 3, none⟩ (.slice F3 x1.f1.length f3)).setCell ⟨g12, 4, none⟩ (.slice F4 x1.f2.length f4)).setCell ⟨g12, 5, none⟩ (.slice F5 x1.f3.length f5)).setCell ⟨g12, 6, none⟩ (.int .i64 x1.f4)).setCell ⟨g12, 7, none⟩ (.slice F7 x1.f5.length f7)) = put8 w112 g12 (.int .u64 x1.f0.f0) (.int .i64 x1.f0.f1) (.int .i64 x1.f0.f2) (.slice F3 x1.f1.length f3) (.slice F4 x1.f2.length f4) (.slice F5 x1.f3.length f5) (.int .i64 x1.f4) (.slice F7 x1.f5.length f7) from rfl]
 have HBn := Aside0.mk (below8 HBn.out GE12.out (.int .u64 x1.f0.f0) (.int .i64 x1.f0.f1) (.int .i64 x1.f0.f2) (.slice F3 x1.f1.length f3) (.slice F4 x1.f2.length f4) (.slice F5 x1.f3.length f5) (.int .i64 x1.f4) (.slice F7 x1.f5.length f7))
 have B12 := Aside0.mk (blk8 B12.out (.int .u64 x1.f0.f0) (.int .i64 x1.f0.f1) (.int .i64 x1.f0.f2) (.slice F3 x1.f1.length f3) (.slice F4 x1.f2.length f4) (.slice F5 x1.f3.length f5) (.int .i64 x1.f4) (.slice F7 x1.f5.length f7))
 clear hz0 hz1 hz2 hz3 hz4 hz5 hz6 hz7 hf0 hf1 hf2 hf3 hf4 hf5 hf6 hf7
 generalize hwq : put8 w112 g12 (.int .u64 x1.f0.f0) (.int .i64 x1.f0.f1) (.int .i64 x1.f0.f2) (.slice F3 x1.f1.length f3) (.slice F4 x1.f2.length f4) (.slice F5 x1.f3.length f5) (.int .i64 x1.f4) (.slice F7 x1.f5.length f7) = wC at HBn B12 ⊢
 clear hwq
 have B9 := Aside0.mk (blk_below B9.out HBn.out)
 have B10 := Aside0.mk (blk_below B10.out HBn.out)
 have HO := Aside0.mk (HO.out.step (fun k hk hlt => HBn.out.block k hlt))
 have H1 := Aside0.mk (H1.out.step (fun k hk hlt => HBn.out.block k hlt))
 have H2 := Aside0.mk (H2.out.step (fun k hk hlt => HBn.out.block k hlt))
 have HB := Aside0.mk (HB.out.trans (HBn.out.mono HB.out.size))
 clear HBn GE12
 have hx0 : wC.cell? ⟨g10, 0, none⟩ = some (.int .u64 x1.f0.f0) := (blk_cell B10.out 0).trans rfl
 have hx1 : wC.cell? ⟨g10, 1, none⟩ = some (.int .i64 x1.f0.f1) := (blk_cell B10.out 1).trans rfl
 have hx2 : wC.cell? ⟨g10, 2, none⟩ = some (.int .i64 x1.f0.f2) := (blk_cell B10.out 2).trans rfl
 have hx3 : wC.cell? ⟨g10, 3, none⟩ = some (.slice E3 x1.f1.length e3) := (blk_cell B10.out 3).trans rfl
 have hx4 : wC.cell? ⟨g10, 4, none⟩ = some (.slice E4 x1.f2.length e4) := (blk_cell B10.out 4).trans rfl
 have hx5 : wC.cell? ⟨g10, 5, none⟩ = some (.slice E5 x1.f3.length e5) := (blk_cell B10.out 5).trans rfl
 have hx6 : wC.cell? ⟨g10, 6, none⟩ = some (.int .i64 x1.f4) := (blk_cell B10.out 6).trans rfl
 have hx7 : wC.cell? ⟨g10, 7, none⟩ = some (.slice E7 x1.f5.length e7) := (blk_cell B10.out 7).trans rfl
 have hz0 : wC.cell? ⟨g12, 0, none⟩ = some (.int .u64 x1.f0.f0) := (blk_cell B12.out 0).trans rfl
 have hz1 : wC.cell? ⟨g12, 1, none⟩ = some (.int .i64 x1.f0.f1) := (blk_cell B12.out 1).trans rfl
 have hz2 : wC.cell? ⟨g12, 2, none⟩ = some (.int .i64 x1.f0.f2) := (blk_cell B12.out 2).trans rfl
 have hz3 : wC.cell? ⟨g12, 3, none⟩ = some (.slice F3 x1.f1.length f3) := (blk_cell B12.out 3).trans rfl
 have hz4 : wC.cell? ⟨g12, 4, none⟩ = some (.slice F4 x1.f2.length f4) := (blk_cell B12.out 4).trans rfl
 have hz5 : wC.cell? ⟨g12, 5, none⟩ = some (.slice F5 x1.f3.length f5) := (blk_cell B12.out 5).trans rfl
 have hz6 : wC.cell? ⟨g12, 6, none⟩ = some (.int .i64 x1.f4) := (blk_cell B12.out 6).trans rfl
 have hz7 : wC.cell? ⟨g12, 7, none⟩ = some (.slice F7 x1.f5.length f7) := (blk_cell B12.out 7).trans rfl
 go_wp2_with (first
   | (go_at_call 17; refine (refSame.calls x1 HFT.out E3 e3 E4 e4 E5 e5 E7 e7 F3 f3 F4 f4 F5 f5 F7 f7 wC H1.out.K H2.out.K).mono ?_; rintro e wd ⟨rfl, hbb⟩; have B9 := Aside0.mk (blk_below B9.out hbb); have HO := Aside0.mk (HO.out.step (fun k hk hlt => hbb.block k hlt)); have HB := Aside0.mk (HB.out.trans (hbb.mono HB.out.size)); clear hbb H1 H2 hx0 hz0 hx1 hz1 hx2 hz2 hx3 hz3 hx4 hz4 hx5 hz5 hx6 hz6 hx7 hz7; have hy0 : wd.cell? ⟨g9, 0, none⟩ = some (.int .u64 0) := (blk_cell B9.out 0).trans rfl; have hy1 : wd.cell? ⟨g9, 1, none⟩ = some (.int .i64 0) := (blk_cell B9.out 1).trans rfl; have hy2 : wd.cell? ⟨g9, 2, none⟩ = some (.int .i64 0) := (blk_cell B9.out 2).trans rfl; have hy3 : wd.cell? ⟨g9, 3, none⟩ = some (.slice D3 co.length d3) := (blk_cell B9.out 3).trans rfl; have hy4 : wd.cell? ⟨g9, 4, none⟩ = some (.slice D4 ac.length d4) := (blk_cell B9.out 4).trans rfl; have hy5 : wd.cell? ⟨g9, 5, none⟩ = some (.slice D5 ta.length d5) := (blk_cell B9.out 5).trans rfl; have hy6 : wd.cell? ⟨g9, 6, none⟩ = some (.int .i64 0) := (blk_cell B9.out 6).trans rfl; have hy7 : wd.cell? ⟨g9, 7, none⟩ = some (.slice D7 0 d7) := (blk_cell B9.out 7).trans rfl)
   | (go_at_call 17; refine (refSame.calls (own30 co ta ac) HWO.out.fit D3 d3 D4 d4 D5 d5 D7 d7 A1 c1 A3 c3 A2 c2 none 0 wd HO.out.K (HKO.out wd HB.out)).mono ?_; rintro e we ⟨rfl, hbb⟩; have HB := Aside0.mk (HB.out.trans (hbb.mono HB.out.size)); clear hbb)
   | (go_at_call 13; refine (alive.calls we).mono ?_; rintro e wz ⟨rfl, hbb⟩; have HB := Aside0.mk (HB.out.trans (hbb.mono HB.out.size)); clear hbb))
 go_ret
 exact ⟨rfl, HB.out⟩
end
end Go.Proofs.Ytkaikgbcnmfppaa.Nb
