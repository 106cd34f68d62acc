/- juntolaw17.NetDraws walked. Made by mk_draws.py. -/
import Derived.Test.YtkaikgbcnmfppaaNbDrawsA
import Derived.Test.YtkaikgbcnmfppaaNbRefClone
import Derived.Test.YtkaikgbcnmfppaaNbAlive
namespace Go.Proofs.Ytkaikgbcnmfppaa.Nb
open Go Go.RowKit Go.Proofs.YtkaikgbcnmfppaaW.PrintWords Go.Proofs.YtkaikgbcnmfppaaW.PrintLast Go.Proofs.YtkaikgbcnmfppaaW.PrintMore
attribute [local go_sem] max2_int min2_int max_two min_two max_three min_three max_four min_four
set_option linter.unusedVariables false
set_option linter.unusedSimpArgs false
noncomputable section
set_option maxHeartbeats 16000000 in
set_option maxRecDepth 100000 in
theorem draws.calls (x : S30) (wf : Wf30 x) (A3 : Option Addr) (c3 : Nat) (A4 : Option Addr) (c4 : Nat) (A5 : Option Addr) (c5 : Nat) (A7 : Option Addr) (c7 : Nat) (a n : Int) (w : World) (hx : k30.K w x (wv x A3 c3 A4 c4 A5 c5 A7 c7).toList) :
  Calls Try.prog 10 #[.agg (wv x A3 c3 A4 c4 A5 c5 A7 c7), .int .i64 a, .int .i64 n] w fun e w' => e = .returned (.bool true) ∧ Below w.heap.size w w' := by
 have hu30 := Try.underlying30
 have hu24 := Try.underlying24
 have HX := Aside0.mk (XF.of hx)
 have HWF := Aside0.mk wf
 obtain ⟨ke, hke⟩ := drawE_ev wf a n
 have HKE := Aside0.mk (hke ke (Nat.le_refl _))
 simp only at HKE
 obtain ⟨er, her⟩ : ∃ er, er = drawE x a n := ⟨_, rfl⟩
 rw [← her] at HKE
 have hee : (er == er) = true := by simp
 have hne : (er != er) = false := by simp
 clear hke hx
 obtain ⟨l, x1, ft1, hl1, HD, HG⟩ : ∃ (l : List Int) (x1 : S30), Fit x1 ∧ l.length < 17592186044416 ∧ (∀ w', k30.K w' x (wv x A3 c3 A4 c4 A5 c5 A7 c7).toList → Calls Try.prog 37 #[.agg (wv x A3 c3 A4 c4 A5 c5 A7 c7), .int .i64 a, .int .i64 n] w' (DrawPost w' l x1 er)) ∧ ((er ≠ 0 → l = [] ∧ x1 = z30) ∧ (er = 0 → ∀ w', k30.K w' x (wv x A3 c3 A4 c4 A5 c5 A7 c7).toList → Calls Try.prog 39 #[.agg (wv x A3 c3 A4 c4 A5 c5 A7 c7), .int .i64 a, .int .i64 n] w' (DrawnPost w' l x1))) := by
  by_cases h : drawE x a n = 0
  ·obtain ⟨l, x1, h1, h2, h3, h4⟩ := draws_good wf h
   rw [her, h]
   exact ⟨l, x1, h1, h2, fun w' hk => h3 A3 c3 A4 c4 A5 c5 A7 c7 w' hk, fun q => absurd rfl q, fun _ w' hk => h4 A3 c3 A4 c4 A5 c5 A7 c7 w' hk⟩
  ·rw [her]
   exact ⟨[], z30, ⟨by decide, by decide, (fun _ h => by cases h), by decide, (fun i h => absurd h (Nat.not_lt_zero i)), by decide, (fun _ h => by cases h)⟩, by decide, fun w' hk => draws_bad wf h A3 c3 A4 c4 A5 c5 A7 c7 w' hk, fun _ => ⟨rfl, rfl⟩, fun q => absurd q h⟩
 have HFT := Aside0.mk ft1
 have HLL := Aside0.mk hl1
 have HD := Aside0.mk HD
 have HG := Aside0.mk HG
 clear ft1 hl1 her wf
 go_enter Try.func10, Try.ntmps10
 go_upto_region 2 with (first
   | ((with_reducible refine gate_dst (N := 3) rfl ?_); refine box_event ?hg (N := 3) ?hd (cs := wv x A3 c3 A4 c4 A5 c5 A7 c7) (t := 30) ?hr ?_; (case hd => rfl); (case hg => rfl); (case hr => first | (go_simp; done) | (go_simp; rfl)); intro g3 hg3 w3 hbox hb3; have Q3 := Aside0.mk hbox; have HB := Aside0.mk hb3; clear hg3 hbox hb3; have hx0 : w3.cell? ⟨g3, 0, none⟩ = some (.int .u64 x.f0.f0) := (blk_cell Q3.out 0).trans rfl; have hx1 : w3.cell? ⟨g3, 1, none⟩ = some (.int .i64 x.f0.f1) := (blk_cell Q3.out 1).trans rfl; have hx2 : w3.cell? ⟨g3, 2, none⟩ = some (.int .i64 x.f0.f2) := (blk_cell Q3.out 2).trans rfl; have hx3 : w3.cell? ⟨g3, 3, none⟩ = some (.slice A3 x.f1.length c3) := (blk_cell Q3.out 3).trans rfl; have hx4 : w3.cell? ⟨g3, 4, none⟩ = some (.slice A4 x.f2.length c4) := (blk_cell Q3.out 4).trans rfl; have hx5 : w3.cell? ⟨g3, 5, none⟩ = some (.slice A5 x.f3.length c5) := (blk_cell Q3.out 5).trans rfl; have hx6 : w3.cell? ⟨g3, 6, none⟩ = some (.int .i64 x.f4) := (blk_cell Q3.out 6).trans rfl; have hx7 : w3.cell? ⟨g3, 7, none⟩ = some (.slice A7 x.f5.length c7) := (blk_cell Q3.out 7).trans rfl)
   | (go_at_call 14; refine (refClone.calls x HWF.out A3 c3 A4 c4 A5 c5 A7 c7 w3 (HX.out.below HB.out).K).mono ?_; rintro e w5 ⟨D3, d3, D4, d4, D5, d5, D7, d7, rfl, hxx, hbb⟩; have HO := Aside0.mk (XF.of hxx); clear hxx hx0 hx1 hx2 hx3 hx4 hx5 hx6 hx7; have Q3 := Aside0.mk (blk_below Q3.out hbb); have HB := Aside0.mk (HB.out.trans (hbb.mono HB.out.size)); clear hbb)
   | ((with_reducible refine gate_dst (N := 7) rfl ?_); refine box_event ?hg (N := 7) ?hd (cs := #[.int .u64 0, .int .i64 0, .int .i64 0, .slice none 0 0, .slice none 0 0, .slice none 0 0, .int .i64 0, .slice none 0 0]) (t := 30) ?hr ?_; (case hd => rfl); (case hg => rfl); (case hr => first | (go_simp; done) | (go_simp; rfl)); intro g7 hg7 w107 hbox hb7; have Q7 := Aside0.mk hbox; have GE7 := Aside0.mk (show w5.heap.size ≤ g7 from Nat.le_of_eq hg7.symm); have HBn := Aside0.mk hb7; clear hg7 hbox hb7; have hz0 : w107.cell? ⟨g7, 0, none⟩ = some (.int .u64 0) := (blk_cell Q7.out 0).trans rfl; have hz1 : w107.cell? ⟨g7, 1, none⟩ = some (.int .i64 0) := (blk_cell Q7.out 1).trans rfl; have hz2 : w107.cell? ⟨g7, 2, none⟩ = some (.int .i64 0) := (blk_cell Q7.out 2).trans rfl; have hz3 : w107.cell? ⟨g7, 3, none⟩ = some (.slice none 0 0) := (blk_cell Q7.out 3).trans rfl; have hz4 : w107.cell? ⟨g7, 4, none⟩ = some (.slice none 0 0) := (blk_cell Q7.out 4).trans rfl; have hz5 : w107.cell? ⟨g7, 5, none⟩ = some (.slice none 0 0) := (blk_cell Q7.out 5).trans rfl; have hz6 : w107.cell? ⟨g7, 6, none⟩ = some (.int .i64 0) := (blk_cell Q7.out 6).trans rfl; have hz7 : w107.cell? ⟨g7, 7, none⟩ = some (.slice none 0 0) := (blk_cell Q7.out 7).trans rfl; have hf0 := blk_frozen Q7.out 0; have hf1 := blk_frozen Q7.out 1; have hf2 := blk_frozen Q7.out 2; have hf3 := blk_frozen Q7.out 3; have hf4 := blk_frozen Q7.out 4; have hf5 := blk_frozen Q7.out 5; have hf6 := blk_frozen Q7.out 6; have hf7 := blk_frozen Q7.out 7))
 rw [show ((((((((w107.setCell ⟨g7, 0, none⟩ (.int .u64 x.f0.f0)).setCell ⟨g7, 1, none⟩ (.int .i64 x.f0.f1)).setCell ⟨g7, 2, none⟩ (.int .i64 x.f0.f2)).setCell ⟨g7, 3, none⟩ (.slice D3 x.f1.length d3)).setCell ⟨g7, 4, none⟩ (.slice D4 x.f2.length d4)).setCell ⟨g7, 5, none⟩ (.slice D5 x.f3.length d5)).setCell ⟨g7, 6, none⟩ (.int .i64 x.f4)).setCell ⟨g7, 7, none⟩ (.slice D7 x.f5.length d7)) = put8 w107 g7 (.int .u64 x.f0.f0) (.int .i64 x.f0.f1) (.int .i64 x.f0.f2) (.slice D3 x.f1.length d3) (.slice D4 x.f2.length d4) (.slice D5 x.f3.length d5) (.int .i64 x.f4) (.slice D7 x.f5.length d7) from rfl]
 have HBn := Aside0.mk (below8 HBn.out GE7.out (.int .u64 x.f0.f0) (.int .i64 x.f0.f1) (.int .i64 x.f0.f2) (.slice D3 x.f1.length d3) (.slice D4 x.f2.length d4) (.slice D5 x.f3.length d5) (.int .i64 x.f4) (.slice D7 x.f5.length d7))
 have Q7 := Aside0.mk (blk8 Q7.out (.int .u64 x.f0.f0) (.int .i64 x.f0.f1) (.int .i64 x.f0.f2) (.slice D3 x.f1.length d3) (.slice D4 x.f2.length d4) (.slice D5 x.f3.length d5) (.int .i64 x.f4) (.slice D7 x.f5.length d7))
 clear hz0 hf0 hz1 hf1 hz2 hf2 hz3 hf3 hz4 hf4 hz5 hf5 hz6 hf6 hz7 hf7
 generalize hwq : put8 w107 g7 (.int .u64 x.f0.f0) (.int .i64 x.f0.f1) (.int .i64 x.f0.f2) (.slice D3 x.f1.length d3) (.slice D4 x.f2.length d4) (.slice D5 x.f3.length d5) (.int .i64 x.f4) (.slice D7 x.f5.length d7) = wA at HBn Q7 ⊢
 clear hwq
 have Q3 := Aside0.mk (blk_below Q3.out HBn.out)
 have HO := Aside0.mk (HO.out.step (fun k hk hlt => HBn.out.block k hlt))
 have HB := Aside0.mk (HB.out.trans (HBn.out.mono HB.out.size))
 clear HBn GE7
 have hx0 : wA.cell? ⟨g3, 0, none⟩ = some (.int .u64 x.f0.f0) := (blk_cell Q3.out 0).trans rfl
 have hx1 : wA.cell? ⟨g3, 1, none⟩ = some (.int .i64 x.f0.f1) := (blk_cell Q3.out 1).trans rfl
 have hx2 : wA.cell? ⟨g3, 2, none⟩ = some (.int .i64 x.f0.f2) := (blk_cell Q3.out 2).trans rfl
 have hx3 : wA.cell? ⟨g3, 3, none⟩ = some (.slice A3 x.f1.length c3) := (blk_cell Q3.out 3).trans rfl
 have hx4 : wA.cell? ⟨g3, 4, none⟩ = some (.slice A4 x.f2.length c4) := (blk_cell Q3.out 4).trans rfl
 have hx5 : wA.cell? ⟨g3, 5, none⟩ = some (.slice A5 x.f3.length c5) := (blk_cell Q3.out 5).trans rfl
 have hx6 : wA.cell? ⟨g3, 6, none⟩ = some (.int .i64 x.f4) := (blk_cell Q3.out 6).trans rfl
 have hx7 : wA.cell? ⟨g3, 7, none⟩ = some (.slice A7 x.f5.length c7) := (blk_cell Q3.out 7).trans rfl
 go_upto_region 3 with (first
   | (go_at_call 37; refine (HD.out wA (HX.out.below HB.out).K).mono ?_; rintro e w6 ⟨G, gd, E3, e3, E4, e4, E5, e5, E7, e7, rfl, hg, hgl, hxx, hbb⟩; have H1 := Aside0.mk (XF.of hxx); have HGc := Aside0.mk hg; have HGl := Aside0.mk hgl; clear hxx hg hgl hx0 hx1 hx2 hx3 hx4 hx5 hx6 hx7; have Q3 := Aside0.mk (blk_below Q3.out hbb); have Q7 := Aside0.mk (blk_below Q7.out hbb); have HO := Aside0.mk (HO.out.step (fun k hk hlt => hbb.block k hlt)); have HB := Aside0.mk (HB.out.trans (hbb.mono HB.out.size)); clear hbb)
   | ((with_reducible refine gate_dst (N := 9) rfl ?_); refine box_event ?hg (N := 9) ?hd (cs := #[.int .u64 0, .int .i64 0, .int .i64 0, .slice none 0 0, .slice none 0 0, .slice none 0 0, .int .i64 0, .slice none 0 0]) (t := 30) ?hr ?_; (case hd => rfl); (case hg => rfl); (case hr => first | (go_simp; done) | (go_simp; rfl)); intro g9 hg9 w109 hbox hb9; have Q9 := Aside0.mk hbox; have GE9 := Aside0.mk (show w6.heap.size ≤ g9 from Nat.le_of_eq hg9.symm); have HBn := Aside0.mk hb9; clear hg9 hbox hb9; have hz0 : w109.cell? ⟨g9, 0, none⟩ = some (.int .u64 0) := (blk_cell Q9.out 0).trans rfl; have hz1 : w109.cell? ⟨g9, 1, none⟩ = some (.int .i64 0) := (blk_cell Q9.out 1).trans rfl; have hz2 : w109.cell? ⟨g9, 2, none⟩ = some (.int .i64 0) := (blk_cell Q9.out 2).trans rfl; have hz3 : w109.cell? ⟨g9, 3, none⟩ = some (.slice none 0 0) := (blk_cell Q9.out 3).trans rfl; have hz4 : w109.cell? ⟨g9, 4, none⟩ = some (.slice none 0 0) := (blk_cell Q9.out 4).trans rfl; have hz5 : w109.cell? ⟨g9, 5, none⟩ = some (.slice none 0 0) := (blk_cell Q9.out 5).trans rfl; have hz6 : w109.cell? ⟨g9, 6, none⟩ = some (.int .i64 0) := (blk_cell Q9.out 6).trans rfl; have hz7 : w109.cell? ⟨g9, 7, none⟩ = some (.slice none 0 0) := (blk_cell Q9.out 7).trans rfl; have hf0 := blk_frozen Q9.out 0; have hf1 := blk_frozen Q9.out 1; have hf2 := blk_frozen Q9.out 2; have hf3 := blk_frozen Q9.out 3; have hf4 := blk_frozen Q9.out 4; have hf5 := blk_frozen Q9.out 5; have hf6 := blk_frozen Q9.out 6; have hf7 := blk_frozen Q9.out 7))
 rw [show ((((((((w109.setCell ⟨g9, 0, none⟩ (.int .u64 x1.f0.f0)).setCell ⟨g9, 1, none⟩ (.int .i64 x1.f0.f1)).setCell ⟨g9, 2, none⟩ (.int .i64 x1.f0.f2)).setCell ⟨g9, 3, none⟩ (.slice E3 x1.f1.length e3)).setCell ⟨g9, 4, none⟩ (.slice E4 x1.f2.length e4)).setCell ⟨g9, 5, none⟩ (.slice E5 x1.f3.length e5)).setCell ⟨g9, 6, none⟩ (.int .i64 x1.f4)).setCell ⟨g9, 7, none⟩ (.slice E7 x1.f5.length e7)) = put8 w109 g9 (.int .u64 x1.f0.f0) (.int .i64 x1.f0.f1) (.int .i64 x1.f0.f2) (.slice E3 x1.f1.length e3) (.slice E4 x1.f2.length e4) (.slice E5 x1.f3.length e5) (.int .i64 x1.f4) (.slice E7 x1.f5.length e7) from rfl]
 have HBn := Aside0.mk (below8 HBn.out GE9.out (.int .u64 x1.f0.f0) (.int .i64 x1.f0.f1) (.int .i64 x1.f0.f2) (.slice E3 x1.f1.length e3) (.slice E4 x1.f2.length e4) (.slice E5 x1.f3.length e5) (.int .i64 x1.f4) (.slice E7 x1.f5.length e7))
 have Q9 := Aside0.mk (blk8 Q9.out (.int .u64 x1.f0.f0) (.int .i64 x1.f0.f1) (.int .i64 x1.f0.f2) (.slice E3 x1.f1.length e3) (.slice E4 x1.f2.length e4) (.slice E5 x1.f3.length e5) (.int .i64 x1.f4) (.slice E7 x1.f5.length e7))
 clear hz0 hf0 hz1 hf1 hz2 hf2 hz3 hf3 hz4 hf4 hz5 hf5 hz6 hf6 hz7 hf7
 generalize hwq : put8 w109 g9 (.int .u64 x1.f0.f0) (.int .i64 x1.f0.f1) (.int .i64 x1.f0.f2) (.slice E3 x1.f1.length e3) (.slice E4 x1.f2.length e4) (.slice E5 x1.f3.length e5) (.int .i64 x1.f4) (.slice E7 x1.f5.length e7) = wB at HBn Q9 ⊢
 clear hwq
 have Q3 := Aside0.mk (blk_below Q3.out HBn.out)
 have Q7 := Aside0.mk (blk_below Q7.out HBn.out)
 have HO := Aside0.mk (HO.out.step (fun k hk hlt => HBn.out.block k hlt))
 have H1 := Aside0.mk (H1.out.step (fun k hk hlt => HBn.out.block k hlt))
 have HGc := Aside0.mk (Kd.C_below HGc.out HBn.out)
 have HB := Aside0.mk (HB.out.trans (HBn.out.mono HB.out.size))
 clear HBn GE9
 have hx0 : wB.cell? ⟨g3, 0, none⟩ = some (.int .u64 x.f0.f0) := (blk_cell Q3.out 0).trans rfl
 have hx1 : wB.cell? ⟨g3, 1, none⟩ = some (.int .i64 x.f0.f1) := (blk_cell Q3.out 1).trans rfl
 have hx2 : wB.cell? ⟨g3, 2, none⟩ = some (.int .i64 x.f0.f2) := (blk_cell Q3.out 2).trans rfl
 have hx3 : wB.cell? ⟨g3, 3, none⟩ = some (.slice A3 x.f1.length c3) := (blk_cell Q3.out 3).trans rfl
 have hx4 : wB.cell? ⟨g3, 4, none⟩ = some (.slice A4 x.f2.length c4) := (blk_cell Q3.out 4).trans rfl
 have hx5 : wB.cell? ⟨g3, 5, none⟩ = some (.slice A5 x.f3.length c5) := (blk_cell Q3.out 5).trans rfl
 have hx6 : wB.cell? ⟨g3, 6, none⟩ = some (.int .i64 x.f4) := (blk_cell Q3.out 6).trans rfl
 have hx7 : wB.cell? ⟨g3, 7, none⟩ = some (.slice A7 x.f5.length c7) := (blk_cell Q3.out 7).trans rfl
 go_upto_region 4 with (go_at_call 38; refine (juntoref17_DrawError.calls ke x.f0.f0 x.f0.f1 x.f0.f2 A3 c3 x.f1 A4 c4 x.f2 A5 c5 x.f3 x.f4 A7 c7 x.f5 a n er wB (Kd.F_now (HX.out.below HB.out).r3) HX.out.l3 (Kd.F_now (HX.out.below HB.out).r4) HX.out.l4 (Kd.F_now (HX.out.below HB.out).r5) HX.out.l5 (Kd.F_now (HX.out.below HB.out).r7) HX.out.l7 HKE.out).mono ?_; rintro e wC ⟨rfl, hbb⟩; clear hx0 hx1 hx2 hx3 hx4 hx5 hx6 hx7; have Q3 := Aside0.mk (blk_below Q3.out hbb); have Q7 := Aside0.mk (blk_below Q7.out hbb); have Q9 := Aside0.mk (blk_below Q9.out hbb); have HO := Aside0.mk (HO.out.step (fun k hk hlt => hbb.block k hlt)); have H1 := Aside0.mk (H1.out.step (fun k hk hlt => hbb.block k hlt)); have HGc := Aside0.mk (Kd.C_below HGc.out hbb); have HB := Aside0.mk (HB.out.trans (hbb.mono HB.out.size)); clear hbb; have hx0 : wC.cell? ⟨g3, 0, none⟩ = some (.int .u64 x.f0.f0) := (blk_cell Q3.out 0).trans rfl; have hx1 : wC.cell? ⟨g3, 1, none⟩ = some (.int .i64 x.f0.f1) := (blk_cell Q3.out 1).trans rfl; have hx2 : wC.cell? ⟨g3, 2, none⟩ = some (.int .i64 x.f0.f2) := (blk_cell Q3.out 2).trans rfl; have hx3 : wC.cell? ⟨g3, 3, none⟩ = some (.slice A3 x.f1.length c3) := (blk_cell Q3.out 3).trans rfl; have hx4 : wC.cell? ⟨g3, 4, none⟩ = some (.slice A4 x.f2.length c4) := (blk_cell Q3.out 4).trans rfl; have hx5 : wC.cell? ⟨g3, 5, none⟩ = some (.slice A5 x.f3.length c5) := (blk_cell Q3.out 5).trans rfl; have hx6 : wC.cell? ⟨g3, 6, none⟩ = some (.int .i64 x.f4) := (blk_cell Q3.out 6).trans rfl; have hx7 : wC.cell? ⟨g3, 7, none⟩ = some (.slice A7 x.f5.length c7) := (blk_cell Q3.out 7).trans rfl; have hz0 : wC.cell? ⟨g7, 0, none⟩ = some (.int .u64 x.f0.f0) := (blk_cell Q7.out 0).trans rfl; have hz1 : wC.cell? ⟨g7, 1, none⟩ = some (.int .i64 x.f0.f1) := (blk_cell Q7.out 1).trans rfl; have hz2 : wC.cell? ⟨g7, 2, none⟩ = some (.int .i64 x.f0.f2) := (blk_cell Q7.out 2).trans rfl; have hz3 : wC.cell? ⟨g7, 3, none⟩ = some (.slice D3 x.f1.length d3) := (blk_cell Q7.out 3).trans rfl; have hz4 : wC.cell? ⟨g7, 4, none⟩ = some (.slice D4 x.f2.length d4) := (blk_cell Q7.out 4).trans rfl; have hz5 : wC.cell? ⟨g7, 5, none⟩ = some (.slice D5 x.f3.length d5) := (blk_cell Q7.out 5).trans rfl; have hz6 : wC.cell? ⟨g7, 6, none⟩ = some (.int .i64 x.f4) := (blk_cell Q7.out 6).trans rfl; have hz7 : wC.cell? ⟨g7, 7, none⟩ = some (.slice D7 x.f5.length d7) := (blk_cell Q7.out 7).trans rfl)
 go_upto_region 6 with (go_at_call 17; refine (refSame.calls x HWF.out.fits D3 d3 D4 d4 D5 d5 D7 d7 A3 c3 A4 c4 A5 c5 A7 c7 wC HO.out.K (HX.out.below HB.out).K).mono ?_; rintro e wD ⟨rfl, hbb⟩; clear hx0 hz0 hx1 hz1 hx2 hz2 hx3 hz3 hx4 hz4 hx5 hz5 hx6 hz6 hx7 hz7; have Q3 := Aside0.mk (blk_below Q3.out hbb); have Q9 := Aside0.mk (blk_below Q9.out hbb); have H1 := Aside0.mk (H1.out.step (fun k hk hlt => hbb.block k hlt)); have HGc := Aside0.mk (Kd.C_below HGc.out hbb); have HB := Aside0.mk (HB.out.trans (hbb.mono HB.out.size)); clear hbb; have hx0 : wD.cell? ⟨g3, 0, none⟩ = some (.int .u64 x.f0.f0) := (blk_cell Q3.out 0).trans rfl; have hx1 : wD.cell? ⟨g3, 1, none⟩ = some (.int .i64 x.f0.f1) := (blk_cell Q3.out 1).trans rfl; have hx2 : wD.cell? ⟨g3, 2, none⟩ = some (.int .i64 x.f0.f2) := (blk_cell Q3.out 2).trans rfl; have hx3 : wD.cell? ⟨g3, 3, none⟩ = some (.slice A3 x.f1.length c3) := (blk_cell Q3.out 3).trans rfl; have hx4 : wD.cell? ⟨g3, 4, none⟩ = some (.slice A4 x.f2.length c4) := (blk_cell Q3.out 4).trans rfl; have hx5 : wD.cell? ⟨g3, 5, none⟩ = some (.slice A5 x.f3.length c5) := (blk_cell Q3.out 5).trans rfl; have hx6 : wD.cell? ⟨g3, 6, none⟩ = some (.int .i64 x.f4) := (blk_cell Q3.out 6).trans rfl; have hx7 : wD.cell? ⟨g3, 7, none⟩ = some (.slice A7 x.f5.length c7) := (blk_cell Q3.out 7).trans rfl; have hz0 : wD.cell? ⟨g9, 0, none⟩ = some (.int .u64 x1.f0.f0) := (blk_cell Q9.out 0).trans rfl; have hz1 : wD.cell? ⟨g9, 1, none⟩ = some (.int .i64 x1.f0.f1) := (blk_cell Q9.out 1).trans rfl; have hz2 : wD.cell? ⟨g9, 2, none⟩ = some (.int .i64 x1.f0.f2) := (blk_cell Q9.out 2).trans rfl; have hz3 : wD.cell? ⟨g9, 3, none⟩ = some (.slice E3 x1.f1.length e3) := (blk_cell Q9.out 3).trans rfl; have hz4 : wD.cell? ⟨g9, 4, none⟩ = some (.slice E4 x1.f2.length e4) := (blk_cell Q9.out 4).trans rfl; have hz5 : wD.cell? ⟨g9, 5, none⟩ = some (.slice E5 x1.f3.length e5) := (blk_cell Q9.out 5).trans rfl; have hz6 : wD.cell? ⟨g9, 6, none⟩ = some (.int .i64 x1.f4) := (blk_cell Q9.out 6).trans rfl; have hz7 : wD.cell? ⟨g9, 7, none⟩ = some (.slice E7 x1.f5.length e7) := (blk_cell Q9.out 7).trans rfl)
 by_cases h0 : er = 0
 case neg =>
  have hr1 : (er != 0) = true := by simp [h0]
  have hr2 : (er == 0) = false := by simp [h0]
  obtain ⟨rfl, rfl⟩ := HG.out.1 h0
  go_wp2_with (first
   | (go_at_call 24; refine (zero.calls E3 e3 E4 e4 E5 e5 E7 e7 wD).mono ?_; rintro e wE ⟨rfl, hbb⟩; have HB := Aside0.mk (HB.out.trans (hbb.mono HB.out.size)); clear hbb)
   | (go_at_call 13; refine (alive.calls wE).mono ?_; rintro e wz ⟨rfl, hbb⟩; have HB := Aside0.mk (HB.out.trans (hbb.mono HB.out.size)); clear hbb))
  go_ret
  exact ⟨rfl, HB.out⟩
 case pos =>
  subst h0
  have HG := Aside0.mk (HG.out.2 rfl)
  go_upto_region 9 with (first
   | (go_at_call 39; refine (HG.out wD (HX.out.below HB.out).K).mono ?_; rintro e w8 ⟨M, md, F3, f3, F4, f4, F5, f5, F7, f7, rfl, hg, hgl, hxx, hbb⟩; have H2 := Aside0.mk (XF.of hxx); have HMc := Aside0.mk hg; have HMl := Aside0.mk hgl; clear hxx hg hgl hx0 hz0 hx1 hz1 hx2 hz2 hx3 hz3 hx4 hz4 hx5 hz5 hx6 hz6 hx7 hz7; have Q9 := Aside0.mk (blk_below Q9.out hbb); have H1 := Aside0.mk (H1.out.step (fun k hk hlt => hbb.block k hlt)); have HGc := Aside0.mk (Kd.C_below HGc.out hbb); have HB := Aside0.mk (HB.out.trans (hbb.mono HB.out.size)); clear hbb)
   | ((with_reducible refine gate_dst (N := 13) rfl ?_); refine box_event ?hg (N := 13) ?hd (cs := #[.int .u64 0, .int .i64 0, .int .i64 0, .slice none 0 0, .slice none 0 0, .slice none 0 0, .int .i64 0, .slice none 0 0]) (t := 30) ?hr ?_; (case hd => rfl); (case hg => rfl); (case hr => first | (go_simp; done) | (go_simp; rfl)); intro g13 hg13 w113 hbox hb13; have Q13 := Aside0.mk hbox; have GE13 := Aside0.mk (show w8.heap.size ≤ g13 from Nat.le_of_eq hg13.symm); have HBn := Aside0.mk hb13; clear hg13 hbox hb13; have hz0 : w113.cell? ⟨g13, 0, none⟩ = some (.int .u64 0) := (blk_cell Q13.out 0).trans rfl; have hz1 : w113.cell? ⟨g13, 1, none⟩ = some (.int .i64 0) := (blk_cell Q13.out 1).trans rfl; have hz2 : w113.cell? ⟨g13, 2, none⟩ = some (.int .i64 0) := (blk_cell Q13.out 2).trans rfl; have hz3 : w113.cell? ⟨g13, 3, none⟩ = some (.slice none 0 0) := (blk_cell Q13.out 3).trans rfl; have hz4 : w113.cell? ⟨g13, 4, none⟩ = some (.slice none 0 0) := (blk_cell Q13.out 4).trans rfl; have hz5 : w113.cell? ⟨g13, 5, none⟩ = some (.slice none 0 0) := (blk_cell Q13.out 5).trans rfl; have hz6 : w113.cell? ⟨g13, 6, none⟩ = some (.int .i64 0) := (blk_cell Q13.out 6).trans rfl; have hz7 : w113.cell? ⟨g13, 7, none⟩ = some (.slice none 0 0) := (blk_cell Q13.out 7).trans rfl; have hf0 := blk_frozen Q13.out 0; have hf1 := blk_frozen Q13.out 1; have hf2 := blk_frozen Q13.out 2; have hf3 := blk_frozen Q13.out 3; have hf4 := blk_frozen Q13.out 4; have hf5 := blk_frozen Q13.out 5; have hf6 := blk_frozen Q13.out 6; have hf7 := blk_frozen Q13.out 7))
  rw [show ((((((((w113.setCell ⟨g13, 0, none⟩ (.int .u64 x1.f0.f0)).setCell ⟨g13, 1, none⟩ (.int .i64 x1.f0.f1)).setCell ⟨g13, 2, none⟩ (.int .i64 x1.f0.f2)).setCell ⟨g13, 3, none⟩ (.slice F3 x1.f1.length f3)).setCell ⟨g13, 4, none⟩ (.slice F4 x1.f2.length f4)).setCell ⟨g13, 5, none⟩ (.slice F5 x1.f3.length f5)).setCell ⟨g13, 6, none⟩ (.int .i64 x1.f4)).setCell ⟨g13, 7, none⟩ (.slice F7 x1.f5.length f7)) = put8 w113 g13 (.int .u64 x1.f0.f0) (.int .i64 x1.f0.f1) (.int .i64 x1.f0.f2) (.slice F3 x1.f1.length f3) (.slice F4 x1.f2.length f4) (.slice F5 x1.f3.length f5) (.int .i64 x1.f4) (.slice F7 x1.f5.length f7) from rfl]
  have HBn := Aside0.mk (below8 HBn.out GE13.out (.int .u64 x1.f0.f0) (.int .i64 x1.f0.f1) (.int .i64 x1.f0.f2) (.slice F3 x1.f1.length f3) (.slice F4 x1.f2.length f4) (.slice F5 x1.f3.length f5) (.int .i64 x1.f4) (.slice F7 x1.f5.length f7))
  have Q13 := Aside0.mk (blk8 Q13.out (.int .u64 x1.f0.f0) (.int .i64 x1.f0.f1) (.int .i64 x1.f0.f2) (.slice F3 x1.f1.length f3) (.slice F4 x1.f2.length f4) (.slice F5 x1.f3.length f5) (.int .i64 x1.f4) (.slice F7 x1.f5.length f7))
  clear hz0 hf0 hz1 hf1 hz2 hf2 hz3 hf3 hz4 hf4 hz5 hf5 hz6 hf6 hz7 hf7
  generalize hwq : put8 w113 g13 (.int .u64 x1.f0.f0) (.int .i64 x1.f0.f1) (.int .i64 x1.f0.f2) (.slice F3 x1.f1.length f3) (.slice F4 x1.f2.length f4) (.slice F5 x1.f3.length f5) (.int .i64 x1.f4) (.slice F7 x1.f5.length f7) = wG at HBn Q13 ⊢
  clear hwq
  have Q9 := Aside0.mk (blk_below Q9.out HBn.out)
  have H1 := Aside0.mk (H1.out.step (fun k hk hlt => HBn.out.block k hlt))
  have H2 := Aside0.mk (H2.out.step (fun k hk hlt => HBn.out.block k hlt))
  have HGc := Aside0.mk (Kd.C_below HGc.out HBn.out)
  have HMc := Aside0.mk (Kd.C_below HMc.out HBn.out)
  have HB := Aside0.mk (HB.out.trans (HBn.out.mono HB.out.size))
  clear HBn GE13
  go_wp2_with (first
   | (go_at_call 28; refine (juntoref01_Same.calls (l.length + 1) G gd l M md l true wG HGc.out HGl.out HMc.out HMl.out (same_at l (by have := HLL.out; omega) _ (Nat.lt_succ_self _))).mono ?_; rintro e wH ⟨rfl, hbd⟩; have hbb := hbd.below; clear hbd; have Q9 := Aside0.mk (blk_below Q9.out hbb); have Q13 := Aside0.mk (blk_below Q13.out hbb); have H1 := Aside0.mk (H1.out.step (fun k hk hlt => hbb.block k hlt)); have H2 := Aside0.mk (H2.out.step (fun k hk hlt => hbb.block k hlt)); have HB := Aside0.mk (HB.out.trans (hbb.mono HB.out.size)); clear hbb; have hx0 : wH.cell? ⟨g9, 0, none⟩ = some (.int .u64 x1.f0.f0) := (blk_cell Q9.out 0).trans rfl; have hx1 : wH.cell? ⟨g9, 1, none⟩ = some (.int .i64 x1.f0.f1) := (blk_cell Q9.out 1).trans rfl; have hx2 : wH.cell? ⟨g9, 2, none⟩ = some (.int .i64 x1.f0.f2) := (blk_cell Q9.out 2).trans rfl; have hx3 : wH.cell? ⟨g9, 3, none⟩ = some (.slice E3 x1.f1.length e3) := (blk_cell Q9.out 3).trans rfl; have hx4 : wH.cell? ⟨g9, 4, none⟩ = some (.slice E4 x1.f2.length e4) := (blk_cell Q9.out 4).trans rfl; have hx5 : wH.cell? ⟨g9, 5, none⟩ = some (.slice E5 x1.f3.length e5) := (blk_cell Q9.out 5).trans rfl; have hx6 : wH.cell? ⟨g9, 6, none⟩ = some (.int .i64 x1.f4) := (blk_cell Q9.out 6).trans rfl; have hx7 : wH.cell? ⟨g9, 7, none⟩ = some (.slice E7 x1.f5.length e7) := (blk_cell Q9.out 7).trans rfl; have hz0 : wH.cell? ⟨g13, 0, none⟩ = some (.int .u64 x1.f0.f0) := (blk_cell Q13.out 0).trans rfl; have hz1 : wH.cell? ⟨g13, 1, none⟩ = some (.int .i64 x1.f0.f1) := (blk_cell Q13.out 1).trans rfl; have hz2 : wH.cell? ⟨g13, 2, none⟩ = some (.int .i64 x1.f0.f2) := (blk_cell Q13.out 2).trans rfl; have hz3 : wH.cell? ⟨g13, 3, none⟩ = some (.slice F3 x1.f1.length f3) := (blk_cell Q13.out 3).trans rfl; have hz4 : wH.cell? ⟨g13, 4, none⟩ = some (.slice F4 x1.f2.length f4) := (blk_cell Q13.out 4).trans rfl; have hz5 : wH.cell? ⟨g13, 5, none⟩ = some (.slice F5 x1.f3.length f5) := (blk_cell Q13.out 5).trans rfl; have hz6 : wH.cell? ⟨g13, 6, none⟩ = some (.int .i64 x1.f4) := (blk_cell Q13.out 6).trans rfl; have hz7 : wH.cell? ⟨g13, 7, none⟩ = some (.slice F7 x1.f5.length f7) := (blk_cell Q13.out 7).trans rfl)
   | (go_at_call 17; refine (refSame.calls x1 HFT.out E3 e3 E4 e4 E5 e5 E7 e7 F3 f3 F4 f4 F5 f5 F7 f7 wH H1.out.K H2.out.K).mono ?_; rintro e wI ⟨rfl, hbb⟩; have HB := Aside0.mk (HB.out.trans (hbb.mono HB.out.size)); clear hbb)
   | (go_at_call 13; refine (alive.calls wI).mono ?_; rintro e wz ⟨rfl, hbb⟩; have HB := Aside0.mk (HB.out.trans (hbb.mono HB.out.size)); clear hbb))
  go_ret
  exact ⟨rfl, HB.out⟩
end
end Go.Proofs.Ytkaikgbcnmfppaa.Nb
