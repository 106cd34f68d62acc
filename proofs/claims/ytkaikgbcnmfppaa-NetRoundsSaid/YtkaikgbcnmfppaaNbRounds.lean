/- juntolaw17.NetRounds walked. Made by mk_rounds.py. -/
import Derived.Test.YtkaikgbcnmfppaaNbZero
import Derived.Test.YtkaikgbcnmfppaaNbRefClone
import Derived.Test.YtkaikgbcnmfppaaNbAlive
namespace Go.Proofs.Ytkaikgbcnmfppaa.Nb
open Go Go.RowKit Go.Proofs.YtkaikgbcnmfppaaW.PrintWords Go.Proofs.YtkaikgbcnmfppaaW.PrintLast Go.Proofs.YtkaikgbcnmfppaaW.PrintMore
attribute [local go_sem] max2_int min2_int max_two min_two max_three min_three max_four min_four
set_option linter.unusedVariables false
set_option linter.unusedSimpArgs false
noncomputable section
set_option maxHeartbeats 16000000 in
set_option maxRecDepth 100000 in
theorem rounds.calls (x : S30) (wf : Wf30 x) (A3 : Option Addr) (c3 : Nat) (A4 : Option Addr) (c4 : Nat) (A5 : Option Addr) (c5 : Nat) (A7 : Option Addr) (c7 : Nat) (A1 : Option Addr) (c1 : Nat) (l1 : List (List (List Int))) (wp : WfP l1) (A2 : Option Addr) (c2 : Nat) (l2 : List (List Int)) (wt : WfT l2) (w : World)
  (hx : k30.K w x (wv x A3 c3 A4 c4 A5 c5 A7 c7).toList) (h1 : (Kd.slice 51 kD).C w A1 l1.length l1) (h1l : l1.length ≤ c1) (h2 : kD.C w A2 l2.length l2) (h2l : l2.length ≤ c2) :
  Calls Try.prog 5 #[.agg (wv x A3 c3 A4 c4 A5 c5 A7 c7), .slice A1 l1.length c1, .slice A2 l2.length c2] w fun e w' => e = .returned (.bool true) ∧ Below w.heap.size w w' := by
 have hu30 := Try.underlying30
 have hu24 := Try.underlying24
 rcases hE : exchV x l1 l2 with ⟨came, heard, x1, er⟩
 have HEX := Qz.mk (show ∀ w', k30.K w' x (wv x A3 c3 A4 c4 A5 c5 A7 c7).toList → (Kd.slice 51 kD).C w' A1 l1.length l1 → kD.C w' A2 l2.length l2 → Calls Try.prog 20 #[.agg (wv x A3 c3 A4 c4 A5 c5 A7 c7), .slice A1 l1.length c1, .slice A2 l2.length c2] w' (ExchPost w' came heard x1 er) from fun w' hx h1 h2 => by
  have h := exch_all x wf A3 c3 A4 c4 A5 c5 A7 c7 A1 c1 l1 wp A2 c2 l2 wt w' hx h1 h2
  rw [hE] at h
  exact h)
 obtain ⟨ke, hke⟩ := exchE_ev wf wp l2
 have HKE := Qz.mk (show jEE.f ke x.f0.f0 x.f0.f1 x.f0.f2 x.f1 x.f2 x.f3 x.f4 x.f5 l1 l2 = some er from by rw [hke]; unfold exchE; rw [hE])
 have HWP := Qz.mk wp
 have HKP := Qz.mk (copy_at l2 wt (l2.length + 1) (Nat.lt_succ_self _))
 obtain ⟨ks, hks⟩ := came_wf l1 wp
 have HKS := Qz.mk hks
 obtain ⟨kt, hkt⟩ := pays_wf l2 wt
 have HKT := Qz.mk hkt
 have HBAD := Qz.mk (show er ≠ 0 → came = [] ∧ heard = [] ∧ x1 = z30 from fun q => exchV_bad hE q)
 have HGOOD := Qz.mk (show er = 0 → (Fit x1 ∧ (∃ k, jsC.f k came came = some true) ∧ ∃ k, jSP.f k heard heard = some true) ∧ ∀ w', k30.K w' x (wv x A3 c3 A4 c4 A5 c5 A7 c7).toList → (Kd.slice 51 kD).C w' A1 l1.length l1 → kD.C w' A2 l2.length l2 → Calls Try.prog 25 #[.agg (wv x A3 c3 A4 c4 A5 c5 A7 c7), .slice A1 l1.length c1, .slice A2 l2.length c2] w' (RexPost w' came heard x1) from fun q => by
  subst q
  exact ⟨rounds_fit wf wp wt hE, fun w' hx h1 h2 => rex_all wf wp wt hE A3 c3 A4 c4 A5 c5 A7 c7 A1 c1 A2 c2 w' hx h1 h2⟩)
 have HX := Qz.mk (XF.of hx)
 have HWF := Qz.mk wf
 have HP1 := Qz.mk h1
 have HP2 := Qz.mk h2
 have HL1 := Qz.mk h1l
 have HL2 := Qz.mk h2l
 have hee : (er == er) = true := by simp
 have hne : (er != er) = false := by simp
 clear hE hke hks hkt hx h1 h2 h1l h2l wf wp wt
 go_enter Try.func5, Try.ntmps5
 go_upto_region 2 with (first
   | ((with_reducible refine gdt (N := 3) rfl ?_); refine bxe ?hg (N := 3) ?hd (cs := wv x A3 c3 A4 c4 A5 c5 A7 c7) (t := 30) ?hr ?_; (case hd => rfl); (case hg => rfl); (case hr => first | (go_simp; done) | (go_simp; rfl)); intro g3 hg3 w3 hbox hb3; have Q3 := Qz.mk hbox; have HB := Qz.mk hb3; clear hg3 hbox hb3; have hx0 : w3.cell? ⟨g3, 0, none⟩ = some (.int .u64 x.f0.f0) := (bc_ Q3.out 0).trans rfl; have hx1 : w3.cell? ⟨g3, 1, none⟩ = some (.int .i64 x.f0.f1) := (bc_ Q3.out 1).trans rfl; have hx2 : w3.cell? ⟨g3, 2, none⟩ = some (.int .i64 x.f0.f2) := (bc_ Q3.out 2).trans rfl; have hx3 : w3.cell? ⟨g3, 3, none⟩ = some (.slice A3 x.f1.length c3) := (bc_ Q3.out 3).trans rfl; have hx4 : w3.cell? ⟨g3, 4, none⟩ = some (.slice A4 x.f2.length c4) := (bc_ Q3.out 4).trans rfl; have hx5 : w3.cell? ⟨g3, 5, none⟩ = some (.slice A5 x.f3.length c5) := (bc_ Q3.out 5).trans rfl; have hx6 : w3.cell? ⟨g3, 6, none⟩ = some (.int .i64 x.f4) := (bc_ Q3.out 6).trans rfl; have hx7 : w3.cell? ⟨g3, 7, none⟩ = some (.slice A7 x.f5.length c7) := (bc_ Q3.out 7).trans rfl)
   | (go_at_call 14; refine (refClone.calls x HWF.out A3 c3 A4 c4 A5 c5 A7 c7 w3 (HX.out.below HB.out).K).mono ?_; rintro e w4 ⟨D3, d3, D4, d4, D5, d5, D7, d7, rfl, hxx, hbb⟩; have HO := Qz.mk (XF.of hxx); clear hxx; clear hx0 hx1 hx2 hx3 hx4 hx5 hx6 hx7; have Q3 := Qz.mk (bkb Q3.out hbb); have HB := Qz.mk (HB.out.trans (hbb.mono HB.out.size)); clear hbb)
   | (go_at_call 18; refine (copies.calls A1 c1 l1 HWP.out w4 (Kd.C_below HP1.out HB.out) HL1.out).mono ?_; rintro e w5 ⟨C1, k1, rfl, hC, hl, hbb⟩; have HC1 := Qz.mk hC; have HC1l := Qz.mk hl; clear hC hl; have Q3 := Qz.mk (bkb Q3.out hbb); have HO := Qz.mk (HO.out.step (fun k hk hlt => hbb.block k hlt)); have HB := Qz.mk (HB.out.trans (hbb.mono HB.out.size)); clear hbb)
   | (go_at_call 19; refine (jCp.calls (l2.length + 1) A2 c2 l2 l2 w5 (Kd.C_below HP2.out HB.out) HL2.out HKP.out).mono ?_; rintro e w6 ⟨v0, rfl, hS, hbb⟩; obtain ⟨C2, k2, rfl⟩ := Kd.N_slice (Kd.S_N hS); have HC2 := Qz.mk (Kd.N_reads' (Kd.S_N hS)).2.2; have HC2l := Qz.mk (Kd.N_reads' (Kd.S_N hS)).2.1; clear hS; have Q3 := Qz.mk (bkb Q3.out hbb); have HO := Qz.mk (HO.out.step (fun k hk hlt => hbb.block k hlt)); have HC1 := Qz.mk (Kd.C_below HC1.out hbb); have HB := Qz.mk (HB.out.trans (hbb.mono HB.out.size)); clear hbb)
   | ((with_reducible refine gdt (N := 7) rfl ?_); refine bxe ?hg (N := 7) ?hd (cs := #[.int .u64 0, .int .i64 0, .int .i64 0, .slice none 0 0, .slice none 0 0, .slice none 0 0, .int .i64 0, .slice none 0 0]) (t := 30) ?hr ?_; (case hd => rfl); (case hg => rfl); (case hr => first | (go_simp; done) | (go_simp; rfl)); intro g7 hg7 w107 hbox hb7; have Q7 := Qz.mk hbox; have GE7 := Qz.mk (show w6.heap.size ≤ g7 from Nat.le_of_eq hg7.symm); have HBn := Qz.mk hb7; clear hg7 hbox hb7; have hz0 : w107.cell? ⟨g7, 0, none⟩ = some (.int .u64 0) := (bc_ Q7.out 0).trans rfl; have hz1 : w107.cell? ⟨g7, 1, none⟩ = some (.int .i64 0) := (bc_ Q7.out 1).trans rfl; have hz2 : w107.cell? ⟨g7, 2, none⟩ = some (.int .i64 0) := (bc_ Q7.out 2).trans rfl; have hz3 : w107.cell? ⟨g7, 3, none⟩ = some (.slice none 0 0) := (bc_ Q7.out 3).trans rfl; have hz4 : w107.cell? ⟨g7, 4, none⟩ = some (.slice none 0 0) := (bc_ Q7.out 4).trans rfl; have hz5 : w107.cell? ⟨g7, 5, none⟩ = some (.slice none 0 0) := (bc_ Q7.out 5).trans rfl; have hz6 : w107.cell? ⟨g7, 6, none⟩ = some (.int .i64 0) := (bc_ Q7.out 6).trans rfl; have hz7 : w107.cell? ⟨g7, 7, none⟩ = some (.slice none 0 0) := (bc_ Q7.out 7).trans rfl; have hf0 := bf_ Q7.out 0; have hf1 := bf_ Q7.out 1; have hf2 := bf_ Q7.out 2; have hf3 := bf_ Q7.out 3; have hf4 := bf_ Q7.out 4; have hf5 := bf_ Q7.out 5; have hf6 := bf_ Q7.out 6; have hf7 := bf_ Q7.out 7))
 rw [show ((((((((w107.setCell ⟨g7, 0, none⟩ (.int .u64 x.f0.f0)).setCell ⟨g7, 1, none⟩ (.int .i64 x.f0.f1)).setCell ⟨g7, 2, none⟩ (.int .i64 x.f0.f2)).setCell ⟨g7, 3, none⟩ (.slice D3 x.f1.length d3)).setCell ⟨g7, 4, none⟩ (.slice D4 x.f2.length d4)).setCell ⟨g7, 5, none⟩ (.slice D5 x.f3.length d5)).setCell ⟨g7, 6, none⟩ (.int .i64 x.f4)).setCell ⟨g7, 7, none⟩ (.slice D7 x.f5.length d7)) = put8 w107 g7 (.int .u64 x.f0.f0) (.int .i64 x.f0.f1) (.int .i64 x.f0.f2) (.slice D3 x.f1.length d3) (.slice D4 x.f2.length d4) (.slice D5 x.f3.length d5) (.int .i64 x.f4) (.slice D7 x.f5.length d7) from rfl]
 have HBn := Qz.mk (below8 HBn.out GE7.out (.int .u64 x.f0.f0) (.int .i64 x.f0.f1) (.int .i64 x.f0.f2) (.slice D3 x.f1.length d3) (.slice D4 x.f2.length d4) (.slice D5 x.f3.length d5) (.int .i64 x.f4) (.slice D7 x.f5.length d7))
 have Q7 := Qz.mk (blk8 Q7.out (.int .u64 x.f0.f0) (.int .i64 x.f0.f1) (.int .i64 x.f0.f2) (.slice D3 x.f1.length d3) (.slice D4 x.f2.length d4) (.slice D5 x.f3.length d5) (.int .i64 x.f4) (.slice D7 x.f5.length d7))
 clear hz0 hf0 hz1 hf1 hz2 hf2 hz3 hf3 hz4 hf4 hz5 hf5 hz6 hf6 hz7 hf7
 generalize hwq : put8 w107 g7 (.int .u64 x.f0.f0) (.int .i64 x.f0.f1) (.int .i64 x.f0.f2) (.slice D3 x.f1.length d3) (.slice D4 x.f2.length d4) (.slice D5 x.f3.length d5) (.int .i64 x.f4) (.slice D7 x.f5.length d7) = wA at HBn Q7 ⊢
 clear hwq
 have Q3 := Qz.mk (bkb Q3.out HBn.out)
 have HO := Qz.mk (HO.out.step (fun k hk hlt => HBn.out.block k hlt))
 have HC1 := Qz.mk (Kd.C_below HC1.out HBn.out)
 have HC2 := Qz.mk (Kd.C_below HC2.out HBn.out)
 have HB := Qz.mk (HB.out.trans (HBn.out.mono HB.out.size))
 clear HBn GE7
 have hx0 : wA.cell? ⟨g3, 0, none⟩ = some (.int .u64 x.f0.f0) := (bc_ Q3.out 0).trans rfl
 have hx1 : wA.cell? ⟨g3, 1, none⟩ = some (.int .i64 x.f0.f1) := (bc_ Q3.out 1).trans rfl
 have hx2 : wA.cell? ⟨g3, 2, none⟩ = some (.int .i64 x.f0.f2) := (bc_ Q3.out 2).trans rfl
 have hx3 : wA.cell? ⟨g3, 3, none⟩ = some (.slice A3 x.f1.length c3) := (bc_ Q3.out 3).trans rfl
 have hx4 : wA.cell? ⟨g3, 4, none⟩ = some (.slice A4 x.f2.length c4) := (bc_ Q3.out 4).trans rfl
 have hx5 : wA.cell? ⟨g3, 5, none⟩ = some (.slice A5 x.f3.length c5) := (bc_ Q3.out 5).trans rfl
 have hx6 : wA.cell? ⟨g3, 6, none⟩ = some (.int .i64 x.f4) := (bc_ Q3.out 6).trans rfl
 have hx7 : wA.cell? ⟨g3, 7, none⟩ = some (.slice A7 x.f5.length c7) := (bc_ Q3.out 7).trans rfl
 go_upto_region 3 with (first
   | (go_at_call 20; refine (HEX.out wA (HX.out.below HB.out).K (Kd.C_below HP1.out HB.out) (Kd.C_below HP2.out HB.out)).mono ?_; rintro e w7 ⟨G1, gd1, G2, gd2, E3, e3, E4, e4, E5, e5, E7, e7, rfl, hG1, hd1, hG2, hd2, hxx, hbb⟩; have HG1 := Qz.mk (Kd.F_now hG1); have HG2 := Qz.mk (Kd.F_now hG2); have HD1 := Qz.mk hd1; have HD2 := Qz.mk hd2; have H1 := Qz.mk (XF.of hxx); clear hxx hG1 hG2 hd1 hd2; clear hx0 hx1 hx2 hx3 hx4 hx5 hx6 hx7; have Q3 := Qz.mk (bkb Q3.out hbb); have Q7 := Qz.mk (bkb Q7.out hbb); have HO := Qz.mk (HO.out.step (fun k hk hlt => hbb.block k hlt)); have HC1 := Qz.mk (Kd.C_below HC1.out hbb); have HC2 := Qz.mk (Kd.C_below HC2.out hbb); have HB := Qz.mk (HB.out.trans (hbb.mono HB.out.size)); clear hbb)
   | ((with_reducible refine gdt (N := 12) rfl ?_); refine bxe ?hg (N := 12) ?hd (cs := #[.int .u64 0, .int .i64 0, .int .i64 0, .slice none 0 0, .slice none 0 0, .slice none 0 0, .int .i64 0, .slice none 0 0]) (t := 30) ?hr ?_; (case hd => rfl); (case hg => rfl); (case hr => first | (go_simp; done) | (go_simp; rfl)); intro g12 hg12 w112 hbox hb12; have Q12 := Qz.mk hbox; have GE12 := Qz.mk (show w7.heap.size ≤ g12 from Nat.le_of_eq hg12.symm); have HBn := Qz.mk hb12; clear hg12 hbox hb12; have hz0 : w112.cell? ⟨g12, 0, none⟩ = some (.int .u64 0) := (bc_ Q12.out 0).trans rfl; have hz1 : w112.cell? ⟨g12, 1, none⟩ = some (.int .i64 0) := (bc_ Q12.out 1).trans rfl; have hz2 : w112.cell? ⟨g12, 2, none⟩ = some (.int .i64 0) := (bc_ Q12.out 2).trans rfl; have hz3 : w112.cell? ⟨g12, 3, none⟩ = some (.slice none 0 0) := (bc_ Q12.out 3).trans rfl; have hz4 : w112.cell? ⟨g12, 4, none⟩ = some (.slice none 0 0) := (bc_ Q12.out 4).trans rfl; have hz5 : w112.cell? ⟨g12, 5, none⟩ = some (.slice none 0 0) := (bc_ Q12.out 5).trans rfl; have hz6 : w112.cell? ⟨g12, 6, none⟩ = some (.int .i64 0) := (bc_ Q12.out 6).trans rfl; have hz7 : w112.cell? ⟨g12, 7, none⟩ = some (.slice none 0 0) := (bc_ Q12.out 7).trans rfl; have hf0 := bf_ Q12.out 0; have hf1 := bf_ Q12.out 1; have hf2 := bf_ Q12.out 2; have hf3 := bf_ Q12.out 3; have hf4 := bf_ Q12.out 4; have hf5 := bf_ Q12.out 5; have hf6 := bf_ Q12.out 6; have hf7 := bf_ Q12.out 7))
 rw [show ((((((((w112.setCell ⟨g12, 0, none⟩ (.int .u64 x1.f0.f0)).setCell ⟨g12, 1, none⟩ (.int .i64 x1.f0.f1)).setCell ⟨g12, 2, none⟩ (.int .i64 x1.f0.f2)).setCell ⟨g12, 3, none⟩ (.slice E3 x1.f1.length e3)).setCell ⟨g12, 4, none⟩ (.slice E4 x1.f2.length e4)).setCell ⟨g12, 5, none⟩ (.slice E5 x1.f3.length e5)).setCell ⟨g12, 6, none⟩ (.int .i64 x1.f4)).setCell ⟨g12, 7, none⟩ (.slice E7 x1.f5.length e7)) = put8 w112 g12 (.int .u64 x1.f0.f0) (.int .i64 x1.f0.f1) (.int .i64 x1.f0.f2) (.slice E3 x1.f1.length e3) (.slice E4 x1.f2.length e4) (.slice E5 x1.f3.length e5) (.int .i64 x1.f4) (.slice E7 x1.f5.length e7) from rfl]
 have HBn := Qz.mk (below8 HBn.out GE12.out (.int .u64 x1.f0.f0) (.int .i64 x1.f0.f1) (.int .i64 x1.f0.f2) (.slice E3 x1.f1.length e3) (.slice E4 x1.f2.length e4) (.slice E5 x1.f3.length e5) (.int .i64 x1.f4) (.slice E7 x1.f5.length e7))
 have Q12 := Qz.mk (blk8 Q12.out (.int .u64 x1.f0.f0) (.int .i64 x1.f0.f1) (.int .i64 x1.f0.f2) (.slice E3 x1.f1.length e3) (.slice E4 x1.f2.length e4) (.slice E5 x1.f3.length e5) (.int .i64 x1.f4) (.slice E7 x1.f5.length e7))
 clear hz0 hf0 hz1 hf1 hz2 hf2 hz3 hf3 hz4 hf4 hz5 hf5 hz6 hf6 hz7 hf7
 generalize hwq : put8 w112 g12 (.int .u64 x1.f0.f0) (.int .i64 x1.f0.f1) (.int .i64 x1.f0.f2) (.slice E3 x1.f1.length e3) (.slice E4 x1.f2.length e4) (.slice E5 x1.f3.length e5) (.int .i64 x1.f4) (.slice E7 x1.f5.length e7) = wB at HBn Q12 ⊢
 clear hwq
 have Q3 := Qz.mk (bkb Q3.out HBn.out)
 have Q7 := Qz.mk (bkb Q7.out HBn.out)
 have HO := Qz.mk (HO.out.step (fun k hk hlt => HBn.out.block k hlt))
 have H1 := Qz.mk (H1.out.step (fun k hk hlt => HBn.out.block k hlt))
 have HC1 := Qz.mk (Kd.C_below HC1.out HBn.out)
 have HC2 := Qz.mk (Kd.C_below HC2.out HBn.out)
 have HG1 := Qz.mk (Kd.C_below HG1.out HBn.out)
 have HG2 := Qz.mk (Kd.C_below HG2.out HBn.out)
 have HB := Qz.mk (HB.out.trans (HBn.out.mono HB.out.size))
 clear HBn GE12
 have hx0 : wB.cell? ⟨g3, 0, none⟩ = some (.int .u64 x.f0.f0) := (bc_ Q3.out 0).trans rfl
 have hx1 : wB.cell? ⟨g3, 1, none⟩ = some (.int .i64 x.f0.f1) := (bc_ Q3.out 1).trans rfl
 have hx2 : wB.cell? ⟨g3, 2, none⟩ = some (.int .i64 x.f0.f2) := (bc_ Q3.out 2).trans rfl
 have hx3 : wB.cell? ⟨g3, 3, none⟩ = some (.slice A3 x.f1.length c3) := (bc_ Q3.out 3).trans rfl
 have hx4 : wB.cell? ⟨g3, 4, none⟩ = some (.slice A4 x.f2.length c4) := (bc_ Q3.out 4).trans rfl
 have hx5 : wB.cell? ⟨g3, 5, none⟩ = some (.slice A5 x.f3.length c5) := (bc_ Q3.out 5).trans rfl
 have hx6 : wB.cell? ⟨g3, 6, none⟩ = some (.int .i64 x.f4) := (bc_ Q3.out 6).trans rfl
 have hx7 : wB.cell? ⟨g3, 7, none⟩ = some (.slice A7 x.f5.length c7) := (bc_ Q3.out 7).trans rfl
 go_upto_region 4 with (go_at_call 21; refine (jEE.calls ke x.f0.f0 x.f0.f1 x.f0.f2 A3 c3 x.f1 A4 c4 x.f2 A5 c5 x.f3 x.f4 A7 c7 x.f5 A1 c1 l1 A2 c2 l2 er wB (Kd.F_now (HX.out.below HB.out).r3) HX.out.l3 (Kd.F_now (HX.out.below HB.out).r4) HX.out.l4 (Kd.F_now (HX.out.below HB.out).r5) HX.out.l5 (Kd.F_now (HX.out.below HB.out).r7) HX.out.l7 (Kd.C_below HP1.out HB.out) HL1.out (Kd.C_below HP2.out HB.out) HL2.out HKE.out).mono ?_; rintro e wC ⟨rfl, hbb⟩; clear hx0 hx1 hx2 hx3 hx4 hx5 hx6 hx7; have Q3 := Qz.mk (bkb Q3.out hbb); have Q7 := Qz.mk (bkb Q7.out hbb); have Q12 := Qz.mk (bkb Q12.out hbb); have HO := Qz.mk (HO.out.step (fun k hk hlt => hbb.block k hlt)); have H1 := Qz.mk (H1.out.step (fun k hk hlt => hbb.block k hlt)); have HC1 := Qz.mk (Kd.C_below HC1.out hbb); have HC2 := Qz.mk (Kd.C_below HC2.out hbb); have HG1 := Qz.mk (Kd.C_below HG1.out hbb); have HG2 := Qz.mk (Kd.C_below HG2.out hbb); have HB := Qz.mk (HB.out.trans (hbb.mono HB.out.size)); clear hbb; have hx0 : wC.cell? ⟨g3, 0, none⟩ = some (.int .u64 x.f0.f0) := (bc_ Q3.out 0).trans rfl; have hx1 : wC.cell? ⟨g3, 1, none⟩ = some (.int .i64 x.f0.f1) := (bc_ Q3.out 1).trans rfl; have hx2 : wC.cell? ⟨g3, 2, none⟩ = some (.int .i64 x.f0.f2) := (bc_ Q3.out 2).trans rfl; have hx3 : wC.cell? ⟨g3, 3, none⟩ = some (.slice A3 x.f1.length c3) := (bc_ Q3.out 3).trans rfl; have hx4 : wC.cell? ⟨g3, 4, none⟩ = some (.slice A4 x.f2.length c4) := (bc_ Q3.out 4).trans rfl; have hx5 : wC.cell? ⟨g3, 5, none⟩ = some (.slice A5 x.f3.length c5) := (bc_ Q3.out 5).trans rfl; have hx6 : wC.cell? ⟨g3, 6, none⟩ = some (.int .i64 x.f4) := (bc_ Q3.out 6).trans rfl; have hx7 : wC.cell? ⟨g3, 7, none⟩ = some (.slice A7 x.f5.length c7) := (bc_ Q3.out 7).trans rfl; have hz0 : wC.cell? ⟨g7, 0, none⟩ = some (.int .u64 x.f0.f0) := (bc_ Q7.out 0).trans rfl; have hz1 : wC.cell? ⟨g7, 1, none⟩ = some (.int .i64 x.f0.f1) := (bc_ Q7.out 1).trans rfl; have hz2 : wC.cell? ⟨g7, 2, none⟩ = some (.int .i64 x.f0.f2) := (bc_ Q7.out 2).trans rfl; have hz3 : wC.cell? ⟨g7, 3, none⟩ = some (.slice D3 x.f1.length d3) := (bc_ Q7.out 3).trans rfl; have hz4 : wC.cell? ⟨g7, 4, none⟩ = some (.slice D4 x.f2.length d4) := (bc_ Q7.out 4).trans rfl; have hz5 : wC.cell? ⟨g7, 5, none⟩ = some (.slice D5 x.f3.length d5) := (bc_ Q7.out 5).trans rfl; have hz6 : wC.cell? ⟨g7, 6, none⟩ = some (.int .i64 x.f4) := (bc_ Q7.out 6).trans rfl; have hz7 : wC.cell? ⟨g7, 7, none⟩ = some (.slice D7 x.f5.length d7) := (bc_ Q7.out 7).trans rfl)
 go_upto_region 6 with (first
   | (go_at_call 17; refine (refSame.calls x HWF.out.fitr D3 d3 D4 d4 D5 d5 D7 d7 A3 c3 A4 c4 A5 c5 A7 c7 wC HO.out.K (HX.out.below HB.out).K).mono ?_; rintro e wD ⟨rfl, hbb⟩; clear hx0 hz0 hx1 hz1 hx2 hz2 hx3 hz3 hx4 hz4 hx5 hz5 hx6 hz6 hx7 hz7; have Q3 := Qz.mk (bkb Q3.out hbb); have Q12 := Qz.mk (bkb Q12.out hbb); have H1 := Qz.mk (H1.out.step (fun k hk hlt => hbb.block k hlt)); have HC1 := Qz.mk (Kd.C_below HC1.out hbb); have HC2 := Qz.mk (Kd.C_below HC2.out hbb); have HG1 := Qz.mk (Kd.C_below HG1.out hbb); have HG2 := Qz.mk (Kd.C_below HG2.out hbb); have HB := Qz.mk (HB.out.trans (hbb.mono HB.out.size)); clear hbb)
   | (go_at_call 22; refine (jsC.calls ks C1 k1 l1 A1 c1 l1 true wD HC1.out HC1l.out (Kd.C_below HP1.out HB.out) HL1.out HKS.out).mono ?_; rintro e wE ⟨rfl, hbd⟩; have hbb := hbd.below; clear hbd; have Q3 := Qz.mk (bkb Q3.out hbb); have Q12 := Qz.mk (bkb Q12.out hbb); have H1 := Qz.mk (H1.out.step (fun k hk hlt => hbb.block k hlt)); have HC2 := Qz.mk (Kd.C_below HC2.out hbb); have HG1 := Qz.mk (Kd.C_below HG1.out hbb); have HG2 := Qz.mk (Kd.C_below HG2.out hbb); have HB := Qz.mk (HB.out.trans (hbb.mono HB.out.size)); clear hbb)
   | (go_at_call 23; refine (jSP.calls kt C2 k2 l2 A2 c2 l2 true wE HC2.out HC2l.out (Kd.C_below HP2.out HB.out) HL2.out HKT.out).mono ?_; rintro e wF ⟨rfl, hbd⟩; have hbb := hbd.below; clear hbd; have Q3 := Qz.mk (bkb Q3.out hbb); have Q12 := Qz.mk (bkb Q12.out hbb); have H1 := Qz.mk (H1.out.step (fun k hk hlt => hbb.block k hlt)); have HG1 := Qz.mk (Kd.C_below HG1.out hbb); have HG2 := Qz.mk (Kd.C_below HG2.out hbb); have HB := Qz.mk (HB.out.trans (hbb.mono HB.out.size)); clear hbb; have hx0 : wF.cell? ⟨g3, 0, none⟩ = some (.int .u64 x.f0.f0) := (bc_ Q3.out 0).trans rfl; have hx1 : wF.cell? ⟨g3, 1, none⟩ = some (.int .i64 x.f0.f1) := (bc_ Q3.out 1).trans rfl; have hx2 : wF.cell? ⟨g3, 2, none⟩ = some (.int .i64 x.f0.f2) := (bc_ Q3.out 2).trans rfl; have hx3 : wF.cell? ⟨g3, 3, none⟩ = some (.slice A3 x.f1.length c3) := (bc_ Q3.out 3).trans rfl; have hx4 : wF.cell? ⟨g3, 4, none⟩ = some (.slice A4 x.f2.length c4) := (bc_ Q3.out 4).trans rfl; have hx5 : wF.cell? ⟨g3, 5, none⟩ = some (.slice A5 x.f3.length c5) := (bc_ Q3.out 5).trans rfl; have hx6 : wF.cell? ⟨g3, 6, none⟩ = some (.int .i64 x.f4) := (bc_ Q3.out 6).trans rfl; have hx7 : wF.cell? ⟨g3, 7, none⟩ = some (.slice A7 x.f5.length c7) := (bc_ Q3.out 7).trans rfl; have hz0 : wF.cell? ⟨g12, 0, none⟩ = some (.int .u64 x1.f0.f0) := (bc_ Q12.out 0).trans rfl; have hz1 : wF.cell? ⟨g12, 1, none⟩ = some (.int .i64 x1.f0.f1) := (bc_ Q12.out 1).trans rfl; have hz2 : wF.cell? ⟨g12, 2, none⟩ = some (.int .i64 x1.f0.f2) := (bc_ Q12.out 2).trans rfl; have hz3 : wF.cell? ⟨g12, 3, none⟩ = some (.slice E3 x1.f1.length e3) := (bc_ Q12.out 3).trans rfl; have hz4 : wF.cell? ⟨g12, 4, none⟩ = some (.slice E4 x1.f2.length e4) := (bc_ Q12.out 4).trans rfl; have hz5 : wF.cell? ⟨g12, 5, none⟩ = some (.slice E5 x1.f3.length e5) := (bc_ Q12.out 5).trans rfl; have hz6 : wF.cell? ⟨g12, 6, none⟩ = some (.int .i64 x1.f4) := (bc_ Q12.out 6).trans rfl; have hz7 : wF.cell? ⟨g12, 7, none⟩ = some (.slice E7 x1.f5.length e7) := (bc_ Q12.out 7).trans rfl))
 by_cases h0 : er = 0
 case neg =>
  have hr1 : (er != 0) = true := by simp [h0]
  have hr2 : (er == 0) = false := by simp [h0]
  obtain ⟨rfl, rfl, rfl⟩ := HBAD.out h0
  go_wp2_with (first
   | (go_at_call 24; refine (zero.calls E3 e3 E4 e4 E5 e5 E7 e7 wF).mono ?_; rintro e wG ⟨rfl, hbb⟩; have HB := Qz.mk (HB.out.trans (hbb.mono HB.out.size)); clear hbb)
   | (go_at_call 13; refine (alive.calls wG).mono ?_; rintro e wz ⟨rfl, hbb⟩; have HB := Qz.mk (HB.out.trans (hbb.mono HB.out.size)); clear hbb))
  go_ret
  exact ⟨rfl, HB.out⟩
 case pos =>
  subst h0
  obtain ⟨⟨hft, ⟨ka, hka⟩, kb, hkb⟩, hrx⟩ := HGOOD.out rfl
  have HFT := Qz.mk hft
  have HKA := Qz.mk hka
  have HKB := Qz.mk hkb
  have HRX := Qz.mk hrx
  clear hft hka hkb hrx
  go_upto_region 9 with (first
   | (go_at_call 25; refine (HRX.out wF (HX.out.below HB.out).K (Kd.C_below HP1.out HB.out) (Kd.C_below HP2.out HB.out)).mono ?_; rintro e w8 ⟨M1, md1, M2, md2, F3, f3, F4, f4, F5, f5, F7, f7, rfl, hM1, hd1, hM2, hd2, hxx, hbb⟩; have HM1 := Qz.mk hM1; have HM2 := Qz.mk hM2; have HN1 := Qz.mk hd1; have HN2 := Qz.mk hd2; have H2 := Qz.mk (XF.of hxx); clear hxx hM1 hM2 hd1 hd2 hx0 hz0 hx1 hz1 hx2 hz2 hx3 hz3 hx4 hz4 hx5 hz5 hx6 hz6 hx7 hz7; have Q12 := Qz.mk (bkb Q12.out hbb); have H1 := Qz.mk (H1.out.step (fun k hk hlt => hbb.block k hlt)); have HG1 := Qz.mk (Kd.C_below HG1.out hbb); have HG2 := Qz.mk (Kd.C_below HG2.out hbb); have HB := Qz.mk (HB.out.trans (hbb.mono HB.out.size)); clear hbb)
   | ((with_reducible refine gdt (N := 17) rfl ?_); refine bxe ?hg (N := 17) ?hd (cs := #[.int .u64 0, .int .i64 0, .int .i64 0, .slice none 0 0, .slice none 0 0, .slice none 0 0, .int .i64 0, .slice none 0 0]) (t := 30) ?hr ?_; (case hd => rfl); (case hg => rfl); (case hr => first | (go_simp; done) | (go_simp; rfl)); intro g17 hg17 w117 hbox hb17; have Q17 := Qz.mk hbox; have GE17 := Qz.mk (show w8.heap.size ≤ g17 from Nat.le_of_eq hg17.symm); have HBn := Qz.mk hb17; clear hg17 hbox hb17; have hz0 : w117.cell? ⟨g17, 0, none⟩ = some (.int .u64 0) := (bc_ Q17.out 0).trans rfl; have hz1 : w117.cell? ⟨g17, 1, none⟩ = some (.int .i64 0) := (bc_ Q17.out 1).trans rfl; have hz2 : w117.cell? ⟨g17, 2, none⟩ = some (.int .i64 0) := (bc_ Q17.out 2).trans rfl; have hz3 : w117.cell? ⟨g17, 3, none⟩ = some (.slice none 0 0) := (bc_ Q17.out 3).trans rfl; have hz4 : w117.cell? ⟨g17, 4, none⟩ = some (.slice none 0 0) := (bc_ Q17.out 4).trans rfl; have hz5 : w117.cell? ⟨g17, 5, none⟩ = some (.slice none 0 0) := (bc_ Q17.out 5).trans rfl; have hz6 : w117.cell? ⟨g17, 6, none⟩ = some (.int .i64 0) := (bc_ Q17.out 6).trans rfl; have hz7 : w117.cell? ⟨g17, 7, none⟩ = some (.slice none 0 0) := (bc_ Q17.out 7).trans rfl; have hf0 := bf_ Q17.out 0; have hf1 := bf_ Q17.out 1; have hf2 := bf_ Q17.out 2; have hf3 := bf_ Q17.out 3; have hf4 := bf_ Q17.out 4; have hf5 := bf_ Q17.out 5; have hf6 := bf_ Q17.out 6; have hf7 := bf_ Q17.out 7))
  rw [show ((((((((w117.setCell ⟨g17, 0, none⟩ (.int .u64 x1.f0.f0)).setCell ⟨g17, 1, none⟩ (.int .i64 x1.f0.f1)).setCell ⟨g17, 2, none⟩ (.int .i64 x1.f0.f2)).setCell ⟨g17, 3, none⟩ (.slice F3 x1.f1.length f3)).setCell ⟨g17, 4, none⟩ (.slice F4 x1.f2.length f4)).setCell ⟨g17, 5, none⟩ (.slice F5 x1.f3.length f5)).setCell ⟨g17, 6, none⟩ (.int .i64 x1.f4)).setCell ⟨g17, 7, none⟩ (.slice F7 x1.f5.length f7)) = put8 w117 g17 (.int .u64 x1.f0.f0) (.int .i64 x1.f0.f1) (.int .i64 x1.f0.f2) (.slice F3 x1.f1.length f3) (.slice F4 x1.f2.length f4) (.slice F5 x1.f3.length f5) (.int .i64 x1.f4) (.slice F7 x1.f5.length f7) from rfl]
  have HBn := Qz.mk (below8 HBn.out GE17.out (.int .u64 x1.f0.f0) (.int .i64 x1.f0.f1) (.int .i64 x1.f0.f2) (.slice F3 x1.f1.length f3) (.slice F4 x1.f2.length f4) (.slice F5 x1.f3.length f5) (.int .i64 x1.f4) (.slice F7 x1.f5.length f7))
  have Q17 := Qz.mk (blk8 Q17.out (.int .u64 x1.f0.f0) (.int .i64 x1.f0.f1) (.int .i64 x1.f0.f2) (.slice F3 x1.f1.length f3) (.slice F4 x1.f2.length f4) (.slice F5 x1.f3.length f5) (.int .i64 x1.f4) (.slice F7 x1.f5.length f7))
  clear hz0 hf0 hz1 hf1 hz2 hf2 hz3 hf3 hz4 hf4 hz5 hf5 hz6 hf6 hz7 hf7
  generalize hwq : put8 w117 g17 (.int .u64 x1.f0.f0) (.int .i64 x1.f0.f1) (.int .i64 x1.f0.f2) (.slice F3 x1.f1.length f3) (.slice F4 x1.f2.length f4) (.slice F5 x1.f3.length f5) (.int .i64 x1.f4) (.slice F7 x1.f5.length f7) = wG at HBn Q17 ⊢
  clear hwq
  have Q12 := Qz.mk (bkb Q12.out HBn.out)
  have H1 := Qz.mk (H1.out.step (fun k hk hlt => HBn.out.block k hlt))
  have H2 := Qz.mk (H2.out.step (fun k hk hlt => HBn.out.block k hlt))
  have HG1 := Qz.mk (Kd.C_below HG1.out HBn.out)
  have HG2 := Qz.mk (Kd.C_below HG2.out HBn.out)
  have HM1 := Qz.mk (Kd.C_below HM1.out HBn.out)
  have HM2 := Qz.mk (Kd.C_below HM2.out HBn.out)
  have HB := Qz.mk (HB.out.trans (HBn.out.mono HB.out.size))
  clear HBn GE17
  go_wp2_with (first
   | (go_at_call 22; refine (jsC.calls ka G1 gd1 came M1 md1 came true wG HG1.out HD1.out HM1.out HN1.out HKA.out).mono ?_; rintro e wH ⟨rfl, hbd⟩; have hbb := hbd.below; clear hbd; have Q12 := Qz.mk (bkb Q12.out hbb); have Q17 := Qz.mk (bkb Q17.out hbb); have H1 := Qz.mk (H1.out.step (fun k hk hlt => hbb.block k hlt)); have H2 := Qz.mk (H2.out.step (fun k hk hlt => hbb.block k hlt)); have HG2 := Qz.mk (Kd.C_below HG2.out hbb); have HM2 := Qz.mk (Kd.C_below HM2.out hbb); have HB := Qz.mk (HB.out.trans (hbb.mono HB.out.size)); clear hbb)
   | (go_at_call 23; refine (jSP.calls kb G2 gd2 heard M2 md2 heard true wH HG2.out HD2.out HM2.out HN2.out HKB.out).mono ?_; rintro e wI ⟨rfl, hbd⟩; have hbb := hbd.below; clear hbd; have Q12 := Qz.mk (bkb Q12.out hbb); have Q17 := Qz.mk (bkb Q17.out hbb); have H1 := Qz.mk (H1.out.step (fun k hk hlt => hbb.block k hlt)); have H2 := Qz.mk (H2.out.step (fun k hk hlt => hbb.block k hlt)); have HB := Qz.mk (HB.out.trans (hbb.mono HB.out.size)); clear hbb; have hx0 : wI.cell? ⟨g12, 0, none⟩ = some (.int .u64 x1.f0.f0) := (bc_ Q12.out 0).trans rfl; have hx1 : wI.cell? ⟨g12, 1, none⟩ = some (.int .i64 x1.f0.f1) := (bc_ Q12.out 1).trans rfl; have hx2 : wI.cell? ⟨g12, 2, none⟩ = some (.int .i64 x1.f0.f2) := (bc_ Q12.out 2).trans rfl; have hx3 : wI.cell? ⟨g12, 3, none⟩ = some (.slice E3 x1.f1.length e3) := (bc_ Q12.out 3).trans rfl; have hx4 : wI.cell? ⟨g12, 4, none⟩ = some (.slice E4 x1.f2.length e4) := (bc_ Q12.out 4).trans rfl; have hx5 : wI.cell? ⟨g12, 5, none⟩ = some (.slice E5 x1.f3.length e5) := (bc_ Q12.out 5).trans rfl; have hx6 : wI.cell? ⟨g12, 6, none⟩ = some (.int .i64 x1.f4) := (bc_ Q12.out 6).trans rfl; have hx7 : wI.cell? ⟨g12, 7, none⟩ = some (.slice E7 x1.f5.length e7) := (bc_ Q12.out 7).trans rfl; have hz0 : wI.cell? ⟨g17, 0, none⟩ = some (.int .u64 x1.f0.f0) := (bc_ Q17.out 0).trans rfl; have hz1 : wI.cell? ⟨g17, 1, none⟩ = some (.int .i64 x1.f0.f1) := (bc_ Q17.out 1).trans rfl; have hz2 : wI.cell? ⟨g17, 2, none⟩ = some (.int .i64 x1.f0.f2) := (bc_ Q17.out 2).trans rfl; have hz3 : wI.cell? ⟨g17, 3, none⟩ = some (.slice F3 x1.f1.length f3) := (bc_ Q17.out 3).trans rfl; have hz4 : wI.cell? ⟨g17, 4, none⟩ = some (.slice F4 x1.f2.length f4) := (bc_ Q17.out 4).trans rfl; have hz5 : wI.cell? ⟨g17, 5, none⟩ = some (.slice F5 x1.f3.length f5) := (bc_ Q17.out 5).trans rfl; have hz6 : wI.cell? ⟨g17, 6, none⟩ = some (.int .i64 x1.f4) := (bc_ Q17.out 6).trans rfl; have hz7 : wI.cell? ⟨g17, 7, none⟩ = some (.slice F7 x1.f5.length f7) := (bc_ Q17.out 7).trans rfl)
   | (go_at_call 17; refine (refSame.calls x1 HFT.out E3 e3 E4 e4 E5 e5 E7 e7 F3 f3 F4 f4 F5 f5 F7 f7 wI H1.out.K H2.out.K).mono ?_; rintro e wJ ⟨rfl, hbb⟩; have HB := Qz.mk (HB.out.trans (hbb.mono HB.out.size)); clear hbb)
   | (go_at_call 13; refine (alive.calls wJ).mono ?_; rintro e wz ⟨rfl, hbb⟩; have HB := Qz.mk (HB.out.trans (hbb.mono HB.out.size)); clear hbb))
  go_ret
  exact ⟨rfl, HB.out⟩
end
end Go.Proofs.Ytkaikgbcnmfppaa.Nb
