/- juntolaw17.NetApart walked. Made by mk_apart.py. -/
import Derived.Test.YtkaikgbcnmfppaaNbApartA
import Derived.Test.YtkaikgbcnmfppaaNbActIn
import Derived.BigRegion
namespace Go.Proofs.Ytkaikgbcnmfppaa.Nb
open Go Go.RowKit Go.Proofs.YtkaikgbcnmfppaaW.PrintWords Go.Proofs.YtkaikgbcnmfppaaW.PrintLast Go.Proofs.YtkaikgbcnmfppaaW.PrintMore
attribute [local go_sem] max2_int min2_int max_two min_two max_three min_three max_four min_four
set_option linter.unusedVariables false
set_option linter.unusedSimpArgs false
noncomputable section
def apart.T6 : Bool × List (List Nat × List Nat) := (true, [([], []), ([0], [0]), ([1], [1]), ([2], [2]), ([2], [2]), ([3, 4, 2, 2], [2, 3, 4]), ([2, 5], [2, 5]), ([6, 5], [6]), ([7], [7]), ([7], [7]), ([8, 9, 7, 7], [7, 8, 9]), ([7, 10], [7, 10]), ([11, 10], [11]), ([12], [12]), ([13, 12], [12, 13]), ([12], [12]), ([15, 12], [12, 15]), ([14, 16, 12], [12, 14, 16]), ([12, 17], [12, 17]), ([18, 12], [18]), ([19], [19]), ([20, 19], [19, 20]), ([21, 19], [19, 21]), ([19], [19]), ([23, 19], [19, 23]), ([24, 19], [19, 24]), ([19], [19]), ([26, 19], [19, 26]), ([27, 19], [19, 27]), ([25, 28, 19], [19, 25, 28]), ([22, 29, 19], [19, 22, 29]), ([19, 30], [19, 30]), ([31, 19], [31]), ([32], [32]), ([33, 32], [32, 33]), ([32], [32]), ([35, 32], [32, 35]), ([36, 32], [32, 36]), ([34, 37, 32], [32, 34, 37]), ([32], [32]), ([39, 32], [32, 39]), ([38, 40, 32, 32], [32, 38, 40]), ([32, 41], [32, 41]), ([42, 41], [42]), ([43], [43]), ([44, 43], [43, 44]), ([43], [43]), ([46, 43], [43, 46]), ([47, 43], [43, 47]), ([45, 48, 43], [43, 45, 48]), ([43], [43]), ([50, 43], [43, 50]), ([49, 51, 43, 43], [43, 49, 51]), ([43, 52], [43, 52]), ([53, 52, 0, 1, 2, 3, 4, 5, 6, 7, 8, 9, 10, 11, 12, 13, 14, 15, 16, 17, 18, 19, 20, 21, 22, 23, 24, 25, 26, 27, 28, 29, 30, 31, 32, 33, 34, 35, 36, 37, 38, 39, 40, 41, 42, 43, 44, 45, 46, 47, 48, 49, 50, 51, 52, 53], [53])])
def apart.B6 : List Nat := [0, 1, 3, 7, 7, 31, 63, 127, 255, 255, 1023, 2047, 4095, 8191, 16383, 8191, 40959, 131071, 262143, 524287, 1048575, 2097151, 4194303, 1048575, 9437183, 26214399, 1048575, 68157439, 202375167, 529530879, 1073741823, 2147483647, 4294967295, 8589934591, 17179869183, 8589934591, 42949672959, 111669149695, 274877906943, 8589934591, 558345748479, 2199023255551, 4398046511103, 8796093022207, 17592186044415, 35184372088831, 17592186044415, 87960930222079, 228698418577407, 562949953421311, 17592186044415, 1143492092887039, 4503599627370495, 9007199254740991, 18014398509481983]
theorem apart.tab6 : rtab .any (opsOf Try.f8 6) = apart.T6 := by kernel_rfl
theorem apart.bits6 : waitsOk apart.T6.2 apart.B6 = true := by kernel_rfl
set_option maxHeartbeats 16000000 in
set_option maxRecDepth 100000 in
theorem apart.calls (x : S30) (wf : Wf30 x) (A3 : Option Addr) (c3 : Nat) (A4 : Option Addr) (c4 : Nat) (A5 : Option Addr) (c5 : Nat) (A7 : Option Addr) (c7 : Nat) (A1 : Option Addr) (c1 : Nat) (l1 : List (List (List Int))) (wp : WfP l1) (A2 : Option Addr) (c2 : Nat) (l2 : List (List Int)) (wt : WfT l2) (w : World)
  (hx : k30.K w x (wv x A3 c3 A4 c4 A5 c5 A7 c7).toList) (h1 : (Kd.slice 51 kD).C w A1 l1.length l1) (h2 : kD.C w A2 l2.length l2) :
  Calls Try.prog 8 #[.agg (wv x A3 c3 A4 c4 A5 c5 A7 c7), .slice A1 l1.length c1, .slice A2 l2.length c2] w fun e w' => e = .returned (.bool true) ∧ Below w.heap.size w w' := by
 have hu30 := Try.underlying30
 have hu24 := Try.underlying24
 rcases hE : exchV x l1 l2 with ⟨came, heard, x1, er⟩
 have HEX := Aside0.mk (show ∀ w', k30.K w' x (wv x A3 c3 A4 c4 A5 c5 A7 c7).toList → (Kd.slice 51 kD).C w' A1 l1.length l1 → kD.C w' A2 l2.length l2 → Calls Try.prog 20 #[.agg (wv x A3 c3 A4 c4 A5 c5 A7 c7), .slice A1 l1.length c1, .slice A2 l2.length c2] w' (ExchPost w' came heard x1 er) from fun w' hx h1 h2 => by
  have h := exch_all x wf A3 c3 A4 c4 A5 c5 A7 c7 A1 c1 l1 wp A2 c2 l2 wt w' hx h1 h2
  rw [hE] at h
  exact h)
 have HX := Aside0.mk (XF.of hx)
 have H1 := Aside0.mk h1
 have H2 := Aside0.mk h2
 have HZ := Aside0.mk (show er = 0 → ∃ n s, HF x l1 l2 came heard n ∧ AF x l1 l2 came heard x1 s from fun e => by
  subst e
  obtain ⟨n, hn⟩ := exchV_zero hE
  obtain ⟨s, hs⟩ := exchV_only wf wp wt hE
  exact ⟨n, s, hn, hs⟩)
 have HEY := Aside0.mk (show ∀ (x2 : S30), exchV (only x) l1 l2 = (came, heard, x2, 0) → ∀ B b w', k30.K w' (only x) (wv (only x) A3 c3 B b A5 c5 none 0).toList → (Kd.slice 51 kD).C w' A1 l1.length l1 → kD.C w' A2 l2.length l2 → Calls Try.prog 20 #[.agg (wv (only x) A3 c3 B b A5 c5 none 0), .slice A1 l1.length c1, .slice A2 l2.length c2] w' (ExchPost w' came heard x2 0) from fun x2 h2e B b w' hx h1 h2 => by
  have h := exch_all (only x) (only_wf wf) A3 c3 B b A5 c5 none 0 A1 c1 l1 wp A2 c2 l2 wt w' hx h1 h2
  rw [h2e] at h
  exact h)
 have HSE := Aside0.mk (show x.f5.length < 4398046511104 ∧ ∀ a ∈ x.f5, a.f3.length < 17592186044416 from ⟨by have := wf.se.2.1; omega, fun a ha => WfD.lt (wf.se.2.2 a ha).2.2.2⟩)
 clear hx h1 h2 hE wf wp wt
 go_enter Try.func8, Try.ntmps8
 go_upto_region 2 with (first
   | ((with_reducible refine gate_dst (N := 3) rfl ?_); refine box_event ?hg (N := 3) ?hd (cs := wv x A3 c3 A4 c4 A5 c5 A7 c7) (t := 30) ?hr ?_; (case hd => rfl); (case hg => rfl); (case hr => first | (go_simp; done) | (go_simp; rfl)); intro g3 hg3 w3 hbox hb3; have B3 := Aside0.mk hbox; have HB := Aside0.mk hb3; clear hg3 hbox hb3; have hx0 : w3.cell? ⟨g3, 0, none⟩ = some (.int .u64 x.f0.f0) := (blk_cell B3.out 0).trans rfl; have hx1 : w3.cell? ⟨g3, 1, none⟩ = some (.int .i64 x.f0.f1) := (blk_cell B3.out 1).trans rfl; have hx2 : w3.cell? ⟨g3, 2, none⟩ = some (.int .i64 x.f0.f2) := (blk_cell B3.out 2).trans rfl; have hx3 : w3.cell? ⟨g3, 3, none⟩ = some (.slice A3 x.f1.length c3) := (blk_cell B3.out 3).trans rfl; have hx4 : w3.cell? ⟨g3, 4, none⟩ = some (.slice A4 x.f2.length c4) := (blk_cell B3.out 4).trans rfl; have hx5 : w3.cell? ⟨g3, 5, none⟩ = some (.slice A5 x.f3.length c5) := (blk_cell B3.out 5).trans rfl; have hx6 : w3.cell? ⟨g3, 6, none⟩ = some (.int .i64 x.f4) := (blk_cell B3.out 6).trans rfl; have hx7 : w3.cell? ⟨g3, 7, none⟩ = some (.slice A7 x.f5.length c7) := (blk_cell B3.out 7).trans rfl)
   | (go_at_call 20; refine (HEX.out w3 (HX.out.below HB.out).K (Kd.C_below H1.out HB.out) (Kd.C_below H2.out HB.out)).mono ?_; rintro e w8 ⟨G1, d1, G2, d2, E3, e3, E4, e4, E5, e5, E7, e7, rfl, hG1, hd1, hG2, hd2, hxx, hbb⟩; have HG1 := Aside0.mk (Kd.F_now hG1); have HG2 := Aside0.mk (Kd.F_now hG2); have HD1 := Aside0.mk hd1; have HD2 := Aside0.mk hd2; have HX1 := Aside0.mk (XF.of hxx); have B3 := Aside0.mk (blk_below B3.out hbb); have HB := Aside0.mk (HB.out.trans (hbb.mono HB.out.size)); clear hG1 hd1 hG2 hd2 hxx hbb hx0 hx1 hx2 hx3 hx4 hx5 hx6 hx7)
   | ((with_reducible refine gate_dst (N := 9) rfl ?_); refine box_event ?hg (N := 9) ?hd (cs := #[.int .u64 0, .int .i64 0, .int .i64 0, .slice none 0 0, .slice none 0 0, .slice none 0 0, .int .i64 0, .slice none 0 0]) (t := 30) ?hr ?_; (case hd => rfl); (case hg => rfl); (case hr => first | (go_simp; done) | (go_simp; rfl)); intro g9 hg9 w109 hbox hb9; have B9 := Aside0.mk hbox; have GE9 := Aside0.mk (show w8.heap.size ≤ g9 from Nat.le_of_eq hg9.symm); have HB8 := Aside0.mk hb9; clear hg9 hbox hb9; have hz0 : w109.cell? ⟨g9, 0, none⟩ = some (.int .u64 0) := (blk_cell B9.out 0).trans rfl; have hz1 : w109.cell? ⟨g9, 1, none⟩ = some (.int .i64 0) := (blk_cell B9.out 1).trans rfl; have hz2 : w109.cell? ⟨g9, 2, none⟩ = some (.int .i64 0) := (blk_cell B9.out 2).trans rfl; have hz3 : w109.cell? ⟨g9, 3, none⟩ = some (.slice none 0 0) := (blk_cell B9.out 3).trans rfl; have hz4 : w109.cell? ⟨g9, 4, none⟩ = some (.slice none 0 0) := (blk_cell B9.out 4).trans rfl; have hz5 : w109.cell? ⟨g9, 5, none⟩ = some (.slice none 0 0) := (blk_cell B9.out 5).trans rfl; have hz6 : w109.cell? ⟨g9, 6, none⟩ = some (.int .i64 0) := (blk_cell B9.out 6).trans rfl; have hz7 : w109.cell? ⟨g9, 7, none⟩ = some (.slice none 0 0) := (blk_cell B9.out 7).trans rfl; have hf0 := blk_frozen B9.out 0; have hf1 := blk_frozen B9.out 1; have hf2 := blk_frozen B9.out 2; have hf3 := blk_frozen B9.out 3; have hf4 := blk_frozen B9.out 4; have hf5 := blk_frozen B9.out 5; have hf6 := blk_frozen B9.out 6; have hf7 := blk_frozen B9.out 7))
 rw [show ((((((((w109.setCell ⟨g9, 0, none⟩ (.int .u64 x1.f0.f0)).setCell ⟨g9, 1, none⟩ (.int .i64 x1.f0.f1)).setCell ⟨g9, 2, none⟩ (.int .i64 x1.f0.f2)).setCell ⟨g9, 3, none⟩ (.slice E3 x1.f1.length e3)).setCell ⟨g9, 4, none⟩ (.slice E4 x1.f2.length e4)).setCell ⟨g9, 5, none⟩ (.slice E5 x1.f3.length e5)).setCell ⟨g9, 6, none⟩ (.int .i64 x1.f4)).setCell ⟨g9, 7, none⟩ (.slice E7 x1.f5.length e7)) = put8 w109 g9 (.int .u64 x1.f0.f0) (.int .i64 x1.f0.f1) (.int .i64 x1.f0.f2) (.slice E3 x1.f1.length e3) (.slice E4 x1.f2.length e4) (.slice E5 x1.f3.length e5) (.int .i64 x1.f4) (.slice E7 x1.f5.length e7) from rfl]
 have HB8 := Aside0.mk (below8 HB8.out GE9.out (.int .u64 x1.f0.f0) (.int .i64 x1.f0.f1) (.int .i64 x1.f0.f2) (.slice E3 x1.f1.length e3) (.slice E4 x1.f2.length e4) (.slice E5 x1.f3.length e5) (.int .i64 x1.f4) (.slice E7 x1.f5.length e7))
 have B9 := Aside0.mk (blk8 B9.out (.int .u64 x1.f0.f0) (.int .i64 x1.f0.f1) (.int .i64 x1.f0.f2) (.slice E3 x1.f1.length e3) (.slice E4 x1.f2.length e4) (.slice E5 x1.f3.length e5) (.int .i64 x1.f4) (.slice E7 x1.f5.length e7))
 clear hz0 hz1 hz2 hz3 hz4 hz5 hz6 hz7 hf0 hf1 hf2 hf3 hf4 hf5 hf6 hf7
 generalize hwp : put8 w109 g9 (.int .u64 x1.f0.f0) (.int .i64 x1.f0.f1) (.int .i64 x1.f0.f2) (.slice E3 x1.f1.length e3) (.slice E4 x1.f2.length e4) (.slice E5 x1.f3.length e5) (.int .i64 x1.f4) (.slice E7 x1.f5.length e7) = wp at HB8 B9 ⊢
 clear hwp
 have HG1 := Aside0.mk (Kd.C_below HG1.out HB8.out)
 have HG2 := Aside0.mk (Kd.C_below HG2.out HB8.out)
 have HX1 := Aside0.mk (HX1.out.below HB8.out)
 have B3 := Aside0.mk (blk_below B3.out HB8.out)
 have HB := Aside0.mk (HB.out.trans (HB8.out.mono HB.out.size))
 clear HB8 GE9
 have HX := Aside0.mk (HX.out.below HB.out)
 have H1 := Aside0.mk (Kd.C_below H1.out HB.out)
 have H2 := Aside0.mk (Kd.C_below H2.out HB.out)
 by_cases her : er = 0
 case neg =>
  have hz1 : (er != 0) = true := by simpa using her
  have hz2 : (er == 0) = false := by simpa using her
  go_wp2_with (go_at_call 13; refine (alive.calls wp).mono ?_; rintro e wc ⟨rfl, hbc⟩; have HB := Aside0.mk (HB.out.trans (hbc.mono HB.out.size)); clear hbc)
  go_ret
  exact ⟨rfl, HB.out⟩
 case pos =>
  obtain ⟨n, s, hF, hA⟩ := HZ.out her
  subst her
  have HH := Aside0.mk hF
  have HA := Aside0.mk hA
  obtain ⟨x2, hx2⟩ : ∃ x2 : S30, x2 = ⟨x.f0, x.f1, now (x.f4 + 1) x.f2, x.f3, x.f4 + 1, s⟩ := ⟨_, rfl⟩
  have HEY := Aside0.mk (HEY.out x2 (by rw [hx2]; exact hA.ex))
  have HX2E := Aside0.mk hx2
  clear HZ hF hA HEX hx2
  have hwr : wrap64 (x.f4 + 1) = x.f4 + 1 := by have := HH.out.r0; have := HH.out.r1; unfold wrap64; omega
  have hx0 : wp.cell? ⟨g3, 0, none⟩ = some (.int .u64 x.f0.f0) := (blk_cell B3.out 0).trans rfl
  have hx1 : wp.cell? ⟨g3, 1, none⟩ = some (.int .i64 x.f0.f1) := (blk_cell B3.out 1).trans rfl
  have hx2 : wp.cell? ⟨g3, 2, none⟩ = some (.int .i64 x.f0.f2) := (blk_cell B3.out 2).trans rfl
  have hx3 : wp.cell? ⟨g3, 3, none⟩ = some (.slice A3 x.f1.length c3) := (blk_cell B3.out 3).trans rfl
  have hx4 : wp.cell? ⟨g3, 4, none⟩ = some (.slice A4 x.f2.length c4) := (blk_cell B3.out 4).trans rfl
  have hx5 : wp.cell? ⟨g3, 5, none⟩ = some (.slice A5 x.f3.length c5) := (blk_cell B3.out 5).trans rfl
  have hx6 : wp.cell? ⟨g3, 6, none⟩ = some (.int .i64 x.f4) := (blk_cell B3.out 6).trans rfl
  have hx7 : wp.cell? ⟨g3, 7, none⟩ = some (.slice A7 x.f5.length c7) := (blk_cell B3.out 7).trans rfl
  go_upto_region 5 with (first
    | (go_at_call 33; (try rw [hwr]); refine (actingIn.calls x.f0.f0 x.f0.f1 x.f0.f2 x.f4 (x.f4 + 1) A3 A5 A7 x.f1.length c3 x.f3.length c5 x.f5.length c7 A4 c4 x.f2 wp HH.out.few (Kd.F_now HX.out.r4)).mono ?_; rintro e wa ⟨B, b, rfl, hCB, hlb, hba⟩; have HCB := Aside0.mk hCB; have HLB := Aside0.mk hlb; have HBp := Aside0.mk hba; clear hCB hlb hba hx0 hx1 hx2 hx3 hx4 hx5 hx6 hx7)
    | (go_at_call 32; refine (fresh.calls x.f0.f0 x.f0.f1 x.f0.f2 x.f4 A3 B A5 A7 x.f1.length c3 (now (x.f4 + 1) x.f2).length b x.f3.length c5 x.f5.length c7 wa).mono ?_; rintro e wf2 ⟨rfl, hbf⟩; have HCB := Aside0.mk (Kd.C_below HCB.out hbf); have HBp := Aside0.mk (HBp.out.trans (hbf.mono HBp.out.size)); clear hbf)
    | ((with_reducible refine gate_dst (N := 11) rfl ?_); refine box_event ?hg (N := 11) ?hd (cs := #[.int .u64 0, .int .i64 0, .int .i64 0, .slice none 0 0, .slice none 0 0, .slice none 0 0, .int .i64 0, .slice none 0 0]) (t := 30) ?hr ?_; (case hd => rfl); (case hg => rfl); (case hr => first | (go_simp; done) | (go_simp; rfl)); intro g11 hg11 w111 hbox hb11; have B11 := Aside0.mk hbox; have GE11 := Aside0.mk (show wf2.heap.size ≤ g11 from Nat.le_of_eq hg11.symm); have HBf2 := Aside0.mk hb11; clear hg11 hbox hb11; have hz0 : w111.cell? ⟨g11, 0, none⟩ = some (.int .u64 0) := (blk_cell B11.out 0).trans rfl; have hz1 : w111.cell? ⟨g11, 1, none⟩ = some (.int .i64 0) := (blk_cell B11.out 1).trans rfl; have hz2 : w111.cell? ⟨g11, 2, none⟩ = some (.int .i64 0) := (blk_cell B11.out 2).trans rfl; have hz3 : w111.cell? ⟨g11, 3, none⟩ = some (.slice none 0 0) := (blk_cell B11.out 3).trans rfl; have hz4 : w111.cell? ⟨g11, 4, none⟩ = some (.slice none 0 0) := (blk_cell B11.out 4).trans rfl; have hz5 : w111.cell? ⟨g11, 5, none⟩ = some (.slice none 0 0) := (blk_cell B11.out 5).trans rfl; have hz6 : w111.cell? ⟨g11, 6, none⟩ = some (.int .i64 0) := (blk_cell B11.out 6).trans rfl; have hz7 : w111.cell? ⟨g11, 7, none⟩ = some (.slice none 0 0) := (blk_cell B11.out 7).trans rfl; have hf0 := blk_frozen B11.out 0; have hf1 := blk_frozen B11.out 1; have hf2 := blk_frozen B11.out 2; have hf3 := blk_frozen B11.out 3; have hf4 := blk_frozen B11.out 4; have hf5 := blk_frozen B11.out 5; have hf6 := blk_frozen B11.out 6; have hf7 := blk_frozen B11.out 7))
  rw [show ((((((((w111.setCell ⟨g11, 0, none⟩ (.int .u64 x.f0.f0)).setCell ⟨g11, 1, none⟩ (.int .i64 x.f0.f1)).setCell ⟨g11, 2, none⟩ (.int .i64 x.f0.f2)).setCell ⟨g11, 3, none⟩ (.slice A3 x.f1.length c3)).setCell ⟨g11, 4, none⟩ (.slice B (now (x.f4 + 1) x.f2).length b)).setCell ⟨g11, 5, none⟩ (.slice A5 x.f3.length c5)).setCell ⟨g11, 6, none⟩ (.int .i64 x.f4)).setCell ⟨g11, 7, none⟩ (.slice none 0 0)) = put8 w111 g11 (.int .u64 x.f0.f0) (.int .i64 x.f0.f1) (.int .i64 x.f0.f2) (.slice A3 x.f1.length c3) (.slice B (now (x.f4 + 1) x.f2).length b) (.slice A5 x.f3.length c5) (.int .i64 x.f4) (.slice none 0 0) from rfl]
  have HBf2 := Aside0.mk (below8 HBf2.out GE11.out (.int .u64 x.f0.f0) (.int .i64 x.f0.f1) (.int .i64 x.f0.f2) (.slice A3 x.f1.length c3) (.slice B (now (x.f4 + 1) x.f2).length b) (.slice A5 x.f3.length c5) (.int .i64 x.f4) (.slice none 0 0))
  have B11 := Aside0.mk (blk8 B11.out (.int .u64 x.f0.f0) (.int .i64 x.f0.f1) (.int .i64 x.f0.f2) (.slice A3 x.f1.length c3) (.slice B (now (x.f4 + 1) x.f2).length b) (.slice A5 x.f3.length c5) (.int .i64 x.f4) (.slice none 0 0))
  clear hz0 hz1 hz2 hz3 hz4 hz5 hz6 hz7 hf0 hf1 hf2 hf3 hf4 hf5 hf6 hf7
  generalize hwq : put8 w111 g11 (.int .u64 x.f0.f0) (.int .i64 x.f0.f1) (.int .i64 x.f0.f2) (.slice A3 x.f1.length c3) (.slice B (now (x.f4 + 1) x.f2).length b) (.slice A5 x.f3.length c5) (.int .i64 x.f4) (.slice none 0 0) = wq at HBf2 B11 ⊢
  clear hwq hwr
  have HCB := Aside0.mk (Kd.C_below HCB.out HBf2.out)
  have HBp := Aside0.mk (HBp.out.trans (HBf2.out.mono HBp.out.size))
  clear HBf2 GE11
  have HG1 := Aside0.mk (Kd.C_below HG1.out HBp.out)
  have HG2 := Aside0.mk (Kd.C_below HG2.out HBp.out)
  have HX1 := Aside0.mk (HX1.out.step (fun k hk hlt => HBp.out.block k hlt))
  have HX := Aside0.mk (HX.out.step (fun k hk hlt => HBp.out.block k hlt))
  have B3 := Aside0.mk (blk_below B3.out HBp.out)
  have B9 := Aside0.mk (blk_below B9.out HBp.out)
  have H1 := Aside0.mk (Kd.C_below H1.out HBp.out)
  have H2 := Aside0.mk (Kd.C_below H2.out HBp.out)
  have HB := Aside0.mk (HB.out.trans (HBp.out.mono HB.out.size))
  clear HBp
  have HK2 := Aside0.mk (show k30.K wq (only x) (wv (only x) A3 c3 B b A5 c5 none 0).toList from k30_mk wq (only x) HX.out.l3 (Kd.F_now HX.out.r3) HLB.out HCB.out HX.out.l5 (Kd.F_now HX.out.r5) (Nat.le_refl _) (Kd.C_nil _ _))
  have hx0 : wq.cell? ⟨g11, 0, none⟩ = some (.int .u64 x.f0.f0) := (blk_cell B11.out 0).trans rfl
  have hx1 : wq.cell? ⟨g11, 1, none⟩ = some (.int .i64 x.f0.f1) := (blk_cell B11.out 1).trans rfl
  have hx2 : wq.cell? ⟨g11, 2, none⟩ = some (.int .i64 x.f0.f2) := (blk_cell B11.out 2).trans rfl
  have hx3 : wq.cell? ⟨g11, 3, none⟩ = some (.slice A3 x.f1.length c3) := (blk_cell B11.out 3).trans rfl
  have hx4 : wq.cell? ⟨g11, 4, none⟩ = some (.slice B (now (x.f4 + 1) x.f2).length b) := (blk_cell B11.out 4).trans rfl
  have hx5 : wq.cell? ⟨g11, 5, none⟩ = some (.slice A5 x.f3.length c5) := (blk_cell B11.out 5).trans rfl
  have hx6 : wq.cell? ⟨g11, 6, none⟩ = some (.int .i64 x.f4) := (blk_cell B11.out 6).trans rfl
  have hx7 : wq.cell? ⟨g11, 7, none⟩ = some (.slice none 0 0) := (blk_cell B11.out 7).trans rfl
  go_upto_region 6 with (first
    | (go_at_call 20; refine (HEY.out B b wq HK2.out H1.out H2.out).mono ?_; rintro e w8b ⟨K1, k1, K2, k2, H3, h3, H4, h4, H5, h5, H7, h7, rfl, hG1, hd1, hG2, hd2, hxx, hbb⟩; have HK1 := Aside0.mk (Kd.F_now hG1); have HK2b := Aside0.mk (Kd.F_now hG2); have HKD1 := Aside0.mk hd1; have HKD2 := Aside0.mk hd2; have HX2 := Aside0.mk (XF.of hxx); have HBq := Aside0.mk hbb; clear hG1 hd1 hG2 hd2 hxx hbb hx0 hx1 hx2 hx3 hx4 hx5 hx6 hx7)
    | ((with_reducible refine gate_dst (N := 14) rfl ?_); refine box_event ?hg (N := 14) ?hd (cs := #[.int .u64 0, .int .i64 0, .int .i64 0, .slice none 0 0, .slice none 0 0, .slice none 0 0, .int .i64 0, .slice none 0 0]) (t := 30) ?hr ?_; (case hd => rfl); (case hg => rfl); (case hr => first | (go_simp; done) | (go_simp; rfl)); intro g14 hg14 w114 hbox hb14; have B14 := Aside0.mk hbox; have GE14 := Aside0.mk (show w8b.heap.size ≤ g14 from Nat.le_of_eq hg14.symm); have HB8b := Aside0.mk hb14; clear hg14 hbox hb14; have hz0 : w114.cell? ⟨g14, 0, none⟩ = some (.int .u64 0) := (blk_cell B14.out 0).trans rfl; have hz1 : w114.cell? ⟨g14, 1, none⟩ = some (.int .i64 0) := (blk_cell B14.out 1).trans rfl; have hz2 : w114.cell? ⟨g14, 2, none⟩ = some (.int .i64 0) := (blk_cell B14.out 2).trans rfl; have hz3 : w114.cell? ⟨g14, 3, none⟩ = some (.slice none 0 0) := (blk_cell B14.out 3).trans rfl; have hz4 : w114.cell? ⟨g14, 4, none⟩ = some (.slice none 0 0) := (blk_cell B14.out 4).trans rfl; have hz5 : w114.cell? ⟨g14, 5, none⟩ = some (.slice none 0 0) := (blk_cell B14.out 5).trans rfl; have hz6 : w114.cell? ⟨g14, 6, none⟩ = some (.int .i64 0) := (blk_cell B14.out 6).trans rfl; have hz7 : w114.cell? ⟨g14, 7, none⟩ = some (.slice none 0 0) := (blk_cell B14.out 7).trans rfl; have hf0 := blk_frozen B14.out 0; have hf1 := blk_frozen B14.out 1; have hf2 := blk_frozen B14.out 2; have hf3 := blk_frozen B14.out 3; have hf4 := blk_frozen B14.out 4; have hf5 := blk_frozen B14.out 5; have hf6 := blk_frozen B14.out 6; have hf7 := blk_frozen B14.out 7))
  rw [show ((((((((w114.setCell ⟨g14, 0, none⟩ (.int .u64 x2.f0.f0)).setCell ⟨g14, 1, none⟩ (.int .i64 x2.f0.f1)).setCell ⟨g14, 2, none⟩ (.int .i64 x2.f0.f2)).setCell ⟨g14, 3, none⟩ (.slice H3 x2.f1.length h3)).setCell ⟨g14, 4, none⟩ (.slice H4 x2.f2.length h4)).setCell ⟨g14, 5, none⟩ (.slice H5 x2.f3.length h5)).setCell ⟨g14, 6, none⟩ (.int .i64 x2.f4)).setCell ⟨g14, 7, none⟩ (.slice H7 x2.f5.length h7)) = put8 w114 g14 (.int .u64 x2.f0.f0) (.int .i64 x2.f0.f1) (.int .i64 x2.f0.f2) (.slice H3 x2.f1.length h3) (.slice H4 x2.f2.length h4) (.slice H5 x2.f3.length h5) (.int .i64 x2.f4) (.slice H7 x2.f5.length h7) from rfl]
  have HB8b := Aside0.mk (below8 HB8b.out GE14.out (.int .u64 x2.f0.f0) (.int .i64 x2.f0.f1) (.int .i64 x2.f0.f2) (.slice H3 x2.f1.length h3) (.slice H4 x2.f2.length h4) (.slice H5 x2.f3.length h5) (.int .i64 x2.f4) (.slice H7 x2.f5.length h7))
  have B14 := Aside0.mk (blk8 B14.out (.int .u64 x2.f0.f0) (.int .i64 x2.f0.f1) (.int .i64 x2.f0.f2) (.slice H3 x2.f1.length h3) (.slice H4 x2.f2.length h4) (.slice H5 x2.f3.length h5) (.int .i64 x2.f4) (.slice H7 x2.f5.length h7))
  clear hz0 hz1 hz2 hz3 hz4 hz5 hz6 hz7 hf0 hf1 hf2 hf3 hf4 hf5 hf6 hf7
  generalize hwz : put8 w114 g14 (.int .u64 x2.f0.f0) (.int .i64 x2.f0.f1) (.int .i64 x2.f0.f2) (.slice H3 x2.f1.length h3) (.slice H4 x2.f2.length h4) (.slice H5 x2.f3.length h5) (.int .i64 x2.f4) (.slice H7 x2.f5.length h7) = wz at HB8b B14 ⊢
  clear hwz
  have HK1 := Aside0.mk (Kd.C_below HK1.out HB8b.out)
  have HK2b := Aside0.mk (Kd.C_below HK2b.out HB8b.out)
  have HX2 := Aside0.mk (HX2.out.below HB8b.out)
  have HBq := Aside0.mk (HBq.out.trans (HB8b.out.mono HBq.out.size))
  clear HB8b GE14
  have HG1 := Aside0.mk (Kd.C_below HG1.out HBq.out)
  have HG2 := Aside0.mk (Kd.C_below HG2.out HBq.out)
  have HX1 := Aside0.mk (HX1.out.step (fun k hk hlt => HBq.out.block k hlt))
  have HX := Aside0.mk (HX.out.step (fun k hk hlt => HBq.out.block k hlt))
  have B3 := Aside0.mk (blk_below B3.out HBq.out)
  have B9 := Aside0.mk (blk_below B9.out HBq.out)
  have HB := Aside0.mk (HB.out.trans (HBq.out.mono HB.out.size))
  clear HBq HK2 HCB B11 H1 H2
  obtain ⟨m, hm⟩ : ∃ m, m = x.f5.length := ⟨_, rfl⟩
  obtain ⟨p, hp⟩ : ∃ p, p = s.length := ⟨_, rfl⟩
  obtain ⟨q, hq⟩ : ∃ q, q = m + p := ⟨_, rfl⟩
  have hm2 := HSE.out.1
  have hp2 := HA.out.sl
  have hx14 : x1.f4 = x.f4 + 1 := by rw [HA.out.x1]
  have hx15 : x1.f5 = x.f5 ++ s := by rw [HA.out.x1]
  have hx15l : x1.f5.length = q := by rw [hx15, List.length_append, hq, hm, hp]
  have hx24 : x2.f4 = x.f4 + 1 := by rw [HX2E.out]
  have hx25 : x2.f5 = s := by rw [HX2E.out]
  have hqe : q ≤ e7 := by have := HX1.out.l7; rw [hx15l] at this; exact this
  have S1 := Aside0.mk (show wz.cell? ⟨g9, 6, none⟩ = some (.int .i64 (x.f4 + 1)) from by rw [← hx14]; exact (blk_cell B9.out 6).trans rfl)
  have S2 := Aside0.mk (show wz.cell? ⟨g9, 7, none⟩ = some (.slice E7 q e7) from by rw [← hx15l]; exact (blk_cell B9.out 7).trans rfl)
  have S3 := Aside0.mk (show wz.cell? ⟨g3, 7, none⟩ = some (.slice A7 m c7) from by rw [hm]; exact (blk_cell B3.out 7).trans rfl)
  have S4 := Aside0.mk (show wz.cell? ⟨g14, 6, none⟩ = some (.int .i64 (x.f4 + 1)) from by rw [← hx24]; exact (blk_cell B14.out 6).trans rfl)
  have S5 := Aside0.mk (show wz.cell? ⟨g14, 7, none⟩ = some (.slice H7 p h7) from by rw [hp, ← hx25]; exact (blk_cell B14.out 7).trans rfl)
  have hC7 : k77.C wz E7 (x.f5 ++ s).length (x.f5 ++ s) := by have h := Kd.F_now HX1.out.r7; rw [hx15] at h; exact h
  have hC7t : k77.C wz E7 x.f5.length x.f5 := by
   have h := Kd.C_take (m := x.f5.length) hC7 (by rw [List.length_append]; omega)
   rw [List.take_left'] at h <;> first | exact h | rfl
  obtain ⟨EQ, hEQ⟩ : ∃ r, r = (if e7 = m then E7 else E7.map (·.add (m * 4))) := ⟨_, rfl⟩
  have hC7d : k77.C wz EQ s.length s := by
   have h := Kd.C_drop (m := x.f5.length) (c := e7) hC7 (by rw [List.length_append]; omega) (by rw [List.length_append, ← hm, ← hp, ← hq]; exact hqe)
   rw [List.drop_left', ← hm] at h
   ·rw [hEQ]; exact h
   ·rfl
  obtain ⟨it, hit, _, hsz, _⟩ := info_parts info77
  have hcutA := cut_to (P := Try.prog) 28 77 .i64 Try.underlying28 hit E7 q e7 (m : Int) (by omega) (by omega) hqe
  have hcutB := cut_from (P := Try.prog) 28 77 .i64 Try.underlying28 hit 4 hsz E7 q e7 (m : Int) (by omega) (by omega)
  simp only [Int.toNat_natCast] at hcutA hcutB
  rw [← hEQ, show q - m = p from by omega] at hcutB
  have h0c : came.length < 9223372036854775807 := by have := HH.out.cl; have := HH.out.top; omega
  have h0h : heard.length < 9223372036854775807 := by have := HH.out.hl; have := HH.out.top; omega
  obtain ⟨ka, hka⟩ := came_some came h0c 17592186044416 17592186044416 (by decide) (by decide) HA.out.cm
  have hkb := pay_at heard h0h 17592186044416 (by decide) HA.out.hm (heard.length + 17592186044416 + 1) (by omega)
  obtain ⟨kc, hkc⟩ := sent_some x.f5 (by omega) 17592186044416 (by decide) HSE.out.2
  obtain ⟨kd, hkd⟩ := sent_some s (by omega) 17592186044416 (by decide) HA.out.sm
  generalize heard.length + 17592186044416 + 1 = kb at hkb
  have T1 := Aside0.mk (show ∀ w', Below wz.heap.size wz w' → Calls Try.prog 22 #[.slice G1 came.length d1, .slice K1 came.length k1] w' (fun e w2 => e = .returned (.bool true) ∧ Below w'.heap.size w' w2) from fun w' hb => (juntolaw17_sameCame.calls ka G1 d1 came K1 k1 came true w' (Kd.C_below HG1.out hb) HD1.out (Kd.C_below HK1.out hb) HKD1.out hka).mono (fun e w2 h => ⟨h.1, h.2.below⟩))
  have T2 := Aside0.mk (show ∀ w', Below wz.heap.size wz w' → Calls Try.prog 23 #[.slice G2 heard.length d2, .slice K2 heard.length k2] w' (fun e w2 => e = .returned (.bool true) ∧ Below w'.heap.size w' w2) from fun w' hb => (juntoref17_SamePayloads.calls kb G2 d2 heard K2 k2 heard true w' (Kd.C_below HG2.out hb) HD2.out (Kd.C_below HK2b.out hb) HKD2.out hkb).mono (fun e w2 h => ⟨h.1, h.2.below⟩))
  have T3 := Aside0.mk (show ∀ w', Below wz.heap.size wz w' → Calls Try.prog 34 #[.slice E7 m e7, .slice A7 m c7] w' (fun e w2 => e = .returned (.bool true) ∧ Below w'.heap.size w' w2) from fun w' hb => by
   rw [hm]
   exact juntoref17_SameSent.calls kc E7 e7 x.f5 A7 c7 x.f5 true w' (Kd.C_below hC7t hb) (by omega) (Kd.C_below (Kd.F_now HX.out.r7) hb) HX.out.l7 hkc)
  have T4 := Aside0.mk (show ∀ w', Below wz.heap.size wz w' → Calls Try.prog 34 #[.slice EQ p (e7 - m), .slice H7 p h7] w' (fun e w2 => e = .returned (.bool true) ∧ Below w'.heap.size w' w2) from fun w' hb => by
   have hs5 := Kd.F_now HX2.out.r7
   have hl5 := HX2.out.l7
   rw [hx25] at hs5 hl5
   rw [hp]
   exact juntoref17_SameSent.calls kd EQ (e7 - m) s H7 h7 s true w' (Kd.C_below hC7d hb) (by omega) (Kd.C_below hs5 hb) hl5 hkd)
  have hadd : wrap64 ((m : Int) + (p : Int)) = (q : Int) := by unfold wrap64; omega
  have hHB := HB
  clear hka hkb hkc hkd h0c h0h hit hsz hC7 hC7t hC7d hEQ hx14 hx15 hx15l hx24 hx25 hm hp hq hqe hm2 hp2 HX HX1 HX2 HX2E HG1 HG2 HK1 HK2b HA HH HSE HEY B3 B9 B14
  go_wp2
  have HBz := Aside0.mk (show Below wz.heap.size wz wz.drew from below_drew1 (Below.refl _ _))
  refine start_ (n := 55) (S := fun w' => w'.cell? ⟨g9, 6, none⟩ = some (.int .i64 (x.f4 + 1)) ∧ w'.cell? ⟨g9, 7, none⟩ = some (.slice E7 q e7) ∧ w'.cell? ⟨g3, 7, none⟩ = some (.slice A7 m c7) ∧ w'.cell? ⟨g14, 6, none⟩ = some (.int .i64 (x.f4 + 1)) ∧ w'.cell? ⟨g14, 7, none⟩ = some (.slice H7 p h7)) (ds := []) #[false, false, false, false, false, false, false, false, false, false, false, false, false, false, false, false, false, false, false, false, false, false, false, false, false, false, false, false, false, false, false, false, false, false, false, false, false, false, false, false, false, false, false, false, false, false, false, false, false, false, false, false, false, false, false] (by kernel_rfl) rfl rfl ⟨below_cell HBz.out S1.out, below_cell HBz.out S2.out, below_cell HBz.out S3.out, below_cell HBz.out S4.out, below_cell HBz.out S5.out⟩ (fun hHeld => ?_)
  generalize wz.drew = wa at HBz hHeld ⊢
  refine with_tabW apart.tab6 apart.bits6 (fun HT_ HW_ => ?_)
  refine pure_ (i := 0) (N := some 43) (v := ?_) (a' := ?_) #[true, false, false, false, false, false, false, false, false, false, false, false, false, false, false, false, false, false, false, false, false, false, false, false, false, false, false, false, false, false, false, false, false, false, false, false, false, false, false, false, false, false, false, false, false, false, false, false, false, false, false, false, false, false, false] rfl rfl (any_of HT_.out (by kernel_rfl)) (fun _ _ _ h => h) (Or.inl ⟨by rfl, ?_⟩) ?_ ?_
  rotate_left
  ·intro w'
   go_simp
   with_reducible rfl
  rotate_left
  ·simp only [Act.put, List.setIfInBounds_toArray, List.set_cons_zero, List.set_cons_succ, i64_w, i32_w]
   rfl
  refine pure_ (i := 1) (N := some 44) (v := ?_) (a' := ?_) #[true, true, false, false, false, false, false, false, false, false, false, false, false, false, false, false, false, false, false, false, false, false, false, false, false, false, false, false, false, false, false, false, false, false, false, false, false, false, false, false, false, false, false, false, false, false, false, false, false, false, false, false, false, false, false] rfl rfl (any_of HT_.out (by kernel_rfl)) (fun _ _ _ h => h) (Or.inl ⟨by rfl, ?_⟩) ?_ ?_
  rotate_left
  ·intro w'
   go_simp
   with_reducible rfl
  rotate_left
  ·simp only [Act.put, List.setIfInBounds_toArray, List.set_cons_zero, List.set_cons_succ, i64_w, i32_w]
   rfl
  refine pure_ (i := 2) (N := some 45) (v := ?_) (a' := ?_) #[true, true, true, false, false, false, false, false, false, false, false, false, false, false, false, false, false, false, false, false, false, false, false, false, false, false, false, false, false, false, false, false, false, false, false, false, false, false, false, false, false, false, false, false, false, false, false, false, false, false, false, false, false, false, false] rfl rfl (any_of HT_.out (by kernel_rfl)) (fun _ _ _ h => h) (Or.inl ⟨by rfl, ?_⟩) ?_ ?_
  rotate_left
  ·intro w'
   go_simp
   with_reducible rfl
  rotate_left
  ·simp only [Act.put, List.setIfInBounds_toArray, List.set_cons_zero, List.set_cons_succ, i64_w, i32_w]
   rfl
  refine pure_ (i := 3) (N := some 46) (v := ?_) (a' := ?_) #[true, true, true, true, false, false, false, false, false, false, false, false, false, false, false, false, false, false, false, false, false, false, false, false, false, false, false, false, false, false, false, false, false, false, false, false, false, false, false, false, false, false, false, false, false, false, false, false, false, false, false, false, false, false, false] rfl rfl (any_of HT_.out (by kernel_rfl)) (fun _ _ _ h => h) (Or.inl ⟨by rfl, ?_⟩) ?_ ?_
  rotate_left
  ·intro w'
   go_simp
   with_reducible rfl
  rotate_left
  ·simp only [Act.put, List.setIfInBounds_toArray, List.set_cons_zero, List.set_cons_succ, i64_w, i32_w]
   rfl
  refine pure_ (i := 4) (N := some 47) (v := ?_) (a' := ?_) #[true, true, true, true, true, false, false, false, false, false, false, false, false, false, false, false, false, false, false, false, false, false, false, false, false, false, false, false, false, false, false, false, false, false, false, false, false, false, false, false, false, false, false, false, false, false, false, false, false, false, false, false, false, false, false] rfl rfl (any_of HT_.out (by kernel_rfl)) (fun _ _ _ h => h) (Or.inl ⟨by rfl, ?_⟩) ?_ ?_
  rotate_left
  ·intro w'
   go_simp
   with_reducible rfl
  rotate_left
  ·simp only [Act.put, List.setIfInBounds_toArray, List.set_cons_zero, List.set_cons_succ, i64_w, i32_w]
   rfl
  refine one_ (i := 5) (N := some 48) #[true, true, true, true, true, true, false, false, false, false, false, false, false, false, false, false, false, false, false, false, false, false, false, false, false, false, false, false, false, false, false, false, false, false, false, false, false, false, false, false, false, false, false, false, false, false, false, false, false, false, false, false, false, false, false] rfl rfl (one_of HT_.out (by kernel_rfl)) (by decide) (fun K hK => ?_)
  refine goes_ Try.func22 (by kernel_rfl) rfl #[.slice G1 came.length d1, .slice K1 came.length k1] (by rfl) rfl rfl (by (try simp only [List.map_toArray, List.map_cons, List.map_nil]); first | done | rfl | (simp only [List.length_drop, List.length_take]; rfl)) ?_
  refine (T1.out wa HBz.out).mono ?_
  rintro e wb ⟨rfl, hbn⟩
  refine ⟨_, rfl, ?_⟩
  have HBz := Aside0.mk (HBz.out.trans (hbn.mono HBz.out.size))
  clear hbn
  refine hK.out _ _ ⟨below_cell HBz.out S1.out, below_cell HBz.out S2.out, below_cell HBz.out S3.out, below_cell HBz.out S4.out, below_cell HBz.out S5.out⟩ (fun hHeld => ?_)
  clear hK K
  refine norm_ (a' := ?_) ?_ ?_
  rotate_left
  ·show Act.put _ (some 48) _ = _
   simp only [Act.put, List.setIfInBounds_toArray, List.set_cons_zero, List.set_cons_succ, i64_w, i32_w]
   rfl
  refine pure_ (i := 6) (N := some 49) (v := ?_) (a' := ?_) #[true, true, true, true, true, true, true, false, false, false, false, false, false, false, false, false, false, false, false, false, false, false, false, false, false, false, false, false, false, false, false, false, false, false, false, false, false, false, false, false, false, false, false, false, false, false, false, false, false, false, false, false, false, false, false] rfl rfl (any_of HT_.out (by kernel_rfl)) (fun _ _ _ h => h) (Or.inl ⟨by rfl, ?_⟩) ?_ ?_
  rotate_left
  ·intro w'
   go_simp
   with_reducible rfl
  rotate_left
  ·simp only [Act.put, List.setIfInBounds_toArray, List.set_cons_zero, List.set_cons_succ, i64_w, i32_w]
   rfl
  refine pure_ (i := 7) (N := some 50) (v := ?_) (a' := ?_) #[true, true, true, true, true, true, true, true, false, false, false, false, false, false, false, false, false, false, false, false, false, false, false, false, false, false, false, false, false, false, false, false, false, false, false, false, false, false, false, false, false, false, false, false, false, false, false, false, false, false, false, false, false, false, false] rfl rfl (any_of HT_.out (by kernel_rfl)) (fun _ _ _ h => h) (Or.inl ⟨by rfl, ?_⟩) ?_ ?_
  rotate_left
  ·intro w'
   go_simp
   with_reducible rfl
  rotate_left
  ·simp only [Act.put, List.setIfInBounds_toArray, List.set_cons_zero, List.set_cons_succ, i64_w, i32_w]
   rfl
  refine pure_ (i := 8) (N := some 51) (v := ?_) (a' := ?_) #[true, true, true, true, true, true, true, true, true, false, false, false, false, false, false, false, false, false, false, false, false, false, false, false, false, false, false, false, false, false, false, false, false, false, false, false, false, false, false, false, false, false, false, false, false, false, false, false, false, false, false, false, false, false, false] rfl rfl (any_of HT_.out (by kernel_rfl)) (fun _ _ _ h => h) (Or.inl ⟨by rfl, ?_⟩) ?_ ?_
  rotate_left
  ·intro w'
   go_simp
   with_reducible rfl
  rotate_left
  ·simp only [Act.put, List.setIfInBounds_toArray, List.set_cons_zero, List.set_cons_succ, i64_w, i32_w]
   rfl
  refine pure_ (i := 9) (N := some 52) (v := ?_) (a' := ?_) #[true, true, true, true, true, true, true, true, true, true, false, false, false, false, false, false, false, false, false, false, false, false, false, false, false, false, false, false, false, false, false, false, false, false, false, false, false, false, false, false, false, false, false, false, false, false, false, false, false, false, false, false, false, false, false] rfl rfl (any_of HT_.out (by kernel_rfl)) (fun _ _ _ h => h) (Or.inl ⟨by rfl, ?_⟩) ?_ ?_
  rotate_left
  ·intro w'
   go_simp
   with_reducible rfl
  rotate_left
  ·simp only [Act.put, List.setIfInBounds_toArray, List.set_cons_zero, List.set_cons_succ, i64_w, i32_w]
   rfl
  refine one_ (i := 10) (N := some 53) #[true, true, true, true, true, true, true, true, true, true, true, false, false, false, false, false, false, false, false, false, false, false, false, false, false, false, false, false, false, false, false, false, false, false, false, false, false, false, false, false, false, false, false, false, false, false, false, false, false, false, false, false, false, false, false] rfl rfl (one_of HT_.out (by kernel_rfl)) (by decide) (fun K hK => ?_)
  refine goes_ Try.func23 (by kernel_rfl) rfl #[.slice G2 heard.length d2, .slice K2 heard.length k2] (by rfl) rfl rfl (by (try simp only [List.map_toArray, List.map_cons, List.map_nil]); first | done | rfl | (simp only [List.length_drop, List.length_take]; rfl)) ?_
  refine (T2.out wb HBz.out).mono ?_
  rintro e wc ⟨rfl, hbn⟩
  refine ⟨_, rfl, ?_⟩
  have HBz := Aside0.mk (HBz.out.trans (hbn.mono HBz.out.size))
  clear hbn
  refine hK.out _ _ ⟨below_cell HBz.out S1.out, below_cell HBz.out S2.out, below_cell HBz.out S3.out, below_cell HBz.out S4.out, below_cell HBz.out S5.out⟩ (fun hHeld => ?_)
  clear hK K
  refine norm_ (a' := ?_) ?_ ?_
  rotate_left
  ·show Act.put _ (some 53) _ = _
   simp only [Act.put, List.setIfInBounds_toArray, List.set_cons_zero, List.set_cons_succ, i64_w, i32_w]
   rfl
  refine pure_ (i := 11) (N := some 54) (v := ?_) (a' := ?_) #[true, true, true, true, true, true, true, true, true, true, true, true, false, false, false, false, false, false, false, false, false, false, false, false, false, false, false, false, false, false, false, false, false, false, false, false, false, false, false, false, false, false, false, false, false, false, false, false, false, false, false, false, false, false, false] rfl rfl (any_of HT_.out (by kernel_rfl)) (fun _ _ _ h => h) (Or.inl ⟨by rfl, ?_⟩) ?_ ?_
  rotate_left
  ·intro w'
   go_simp
   with_reducible rfl
  rotate_left
  ·simp only [Act.put, List.setIfInBounds_toArray, List.set_cons_zero, List.set_cons_succ, i64_w, i32_w]
   rfl
  refine pure_ (i := 12) (N := some 55) (v := ?_) (a' := ?_) #[true, true, true, true, true, true, true, true, true, true, true, true, true, false, false, false, false, false, false, false, false, false, false, false, false, false, false, false, false, false, false, false, false, false, false, false, false, false, false, false, false, false, false, false, false, false, false, false, false, false, false, false, false, false, false] rfl rfl (any_of HT_.out (by kernel_rfl)) (fun _ _ _ h => h) (Or.inl ⟨by rfl, ?_⟩) ?_ ?_
  rotate_left
  ·intro w'
   go_simp
   with_reducible rfl
  rotate_left
  ·simp only [Act.put, List.setIfInBounds_toArray, List.set_cons_zero, List.set_cons_succ, i64_w, i32_w]
   rfl
  refine pure_ (i := 13) (N := some 56) (v := ?_) (a' := ?_) #[true, true, true, true, true, true, true, true, true, true, true, true, true, true, false, false, false, false, false, false, false, false, false, false, false, false, false, false, false, false, false, false, false, false, false, false, false, false, false, false, false, false, false, false, false, false, false, false, false, false, false, false, false, false, false] rfl rfl (any_of HT_.out (by kernel_rfl)) (fun _ _ _ h => h) (Or.inl ⟨by rfl, ?_⟩) ?_ ?_
  rotate_left
  ·intro w'
   go_simp
   with_reducible rfl
  rotate_left
  ·simp only [Act.put, List.setIfInBounds_toArray, List.set_cons_zero, List.set_cons_succ, i64_w, i32_w]
   rfl
  refine take_ (i := 14) (N := some 57) (v := ?_) (a' := ?_) #[true, true, true, true, true, true, true, true, true, true, true, true, true, true, true, false, false, false, false, false, false, false, false, false, false, false, false, false, false, false, false, false, false, false, false, false, false, false, false, false, false, false, false, false, false, false, false, false, false, false, false, false, false, false, false] rfl rfl (take_ofW HT_.out HW_.out (by kernel_rfl)) (fun _ _ _ h => h) (Or.inl ⟨by rfl, ?_⟩) hHeld ?_ ?_
  rotate_left
  ·rintro w' ⟨s0, s1, s2, s3, s4⟩
   go_simp
   with_reducible rfl
  rotate_left
  ·simp only [Act.put, List.setIfInBounds_toArray, List.set_cons_zero, List.set_cons_succ, i64_w, i32_w]
   rfl
  refine pure_ (i := 15) (N := some 58) (v := ?_) (a' := ?_) #[true, true, true, true, true, true, true, true, true, true, true, true, true, true, true, true, false, false, false, false, false, false, false, false, false, false, false, false, false, false, false, false, false, false, false, false, false, false, false, false, false, false, false, false, false, false, false, false, false, false, false, false, false, false, false] rfl rfl (any_of HT_.out (by kernel_rfl)) (fun _ _ _ h => h) (Or.inl ⟨by rfl, ?_⟩) ?_ ?_
  rotate_left
  ·intro w'
   go_simp
   with_reducible rfl
  rotate_left
  ·simp only [Act.put, List.setIfInBounds_toArray, List.set_cons_zero, List.set_cons_succ, i64_w, i32_w]
   rfl
  refine take_ (i := 16) (N := some 59) (v := ?_) (a' := ?_) #[true, true, true, true, true, true, true, true, true, true, true, true, true, true, true, true, true, false, false, false, false, false, false, false, false, false, false, false, false, false, false, false, false, false, false, false, false, false, false, false, false, false, false, false, false, false, false, false, false, false, false, false, false, false, false] rfl rfl (take_ofW HT_.out HW_.out (by kernel_rfl)) (fun _ _ _ h => h) (Or.inl ⟨by rfl, ?_⟩) hHeld ?_ ?_
  rotate_left
  ·rintro w' ⟨s0, s1, s2, s3, s4⟩
   go_simp
   with_reducible rfl
  rotate_left
  ·simp only [Act.put, List.setIfInBounds_toArray, List.set_cons_zero, List.set_cons_succ, i64_w, i32_w]
   rfl
  refine pure_ (i := 17) (N := some 60) (v := ?_) (a' := ?_) #[true, true, true, true, true, true, true, true, true, true, true, true, true, true, true, true, true, true, false, false, false, false, false, false, false, false, false, false, false, false, false, false, false, false, false, false, false, false, false, false, false, false, false, false, false, false, false, false, false, false, false, false, false, false, false] rfl rfl (any_of HT_.out (by kernel_rfl)) (fun _ _ _ h => h) (Or.inl ⟨by rfl, ?_⟩) ?_ ?_
  rotate_left
  ·intro w'
   go_simp
   with_reducible rfl
  rotate_left
  ·simp only [Act.put, List.setIfInBounds_toArray, List.set_cons_zero, List.set_cons_succ, i64_w, i32_w]
   rfl
  refine pure_ (i := 18) (N := some 61) (v := ?_) (a' := ?_) #[true, true, true, true, true, true, true, true, true, true, true, true, true, true, true, true, true, true, true, false, false, false, false, false, false, false, false, false, false, false, false, false, false, false, false, false, false, false, false, false, false, false, false, false, false, false, false, false, false, false, false, false, false, false, false] rfl rfl (any_of HT_.out (by kernel_rfl)) (fun _ _ _ h => h) (Or.inl ⟨by rfl, ?_⟩) ?_ ?_
  rotate_left
  ·intro w'
   go_simp
   with_reducible rfl
  rotate_left
  ·simp only [Act.put, List.setIfInBounds_toArray, List.set_cons_zero, List.set_cons_succ, i64_w, i32_w]
   rfl
  refine pure_ (i := 19) (N := some 62) (v := ?_) (a' := ?_) #[true, true, true, true, true, true, true, true, true, true, true, true, true, true, true, true, true, true, true, true, false, false, false, false, false, false, false, false, false, false, false, false, false, false, false, false, false, false, false, false, false, false, false, false, false, false, false, false, false, false, false, false, false, false, false] rfl rfl (any_of HT_.out (by kernel_rfl)) (fun _ _ _ h => h) (Or.inl ⟨by rfl, ?_⟩) ?_ ?_
  rotate_left
  ·intro w'
   go_simp
   with_reducible rfl
  rotate_left
  ·simp only [Act.put, List.setIfInBounds_toArray, List.set_cons_zero, List.set_cons_succ, i64_w, i32_w]
   rfl
  refine pure_ (i := 20) (N := some 63) (v := ?_) (a' := ?_) #[true, true, true, true, true, true, true, true, true, true, true, true, true, true, true, true, true, true, true, true, true, false, false, false, false, false, false, false, false, false, false, false, false, false, false, false, false, false, false, false, false, false, false, false, false, false, false, false, false, false, false, false, false, false, false] rfl rfl (any_of HT_.out (by kernel_rfl)) (fun _ _ _ h => h) (Or.inl ⟨by rfl, ?_⟩) ?_ ?_
  rotate_left
  ·intro w'
   go_simp
   with_reducible rfl
  rotate_left
  ·simp only [Act.put, List.setIfInBounds_toArray, List.set_cons_zero, List.set_cons_succ, i64_w, i32_w]
   rfl
  refine take_ (i := 21) (N := some 64) (v := ?_) (a' := ?_) #[true, true, true, true, true, true, true, true, true, true, true, true, true, true, true, true, true, true, true, true, true, true, false, false, false, false, false, false, false, false, false, false, false, false, false, false, false, false, false, false, false, false, false, false, false, false, false, false, false, false, false, false, false, false, false] rfl rfl (take_ofW HT_.out HW_.out (by kernel_rfl)) (fun _ _ _ h => h) (Or.inl ⟨by rfl, ?_⟩) hHeld ?_ ?_
  rotate_left
  ·rintro w' ⟨s0, s1, s2, s3, s4⟩
   go_simp
   with_reducible rfl
  rotate_left
  ·simp only [Act.put, List.setIfInBounds_toArray, List.set_cons_zero, List.set_cons_succ, i64_w, i32_w]
   rfl
  refine pure_ (i := 22) (N := some 65) (v := ?_) (a' := ?_) #[true, true, true, true, true, true, true, true, true, true, true, true, true, true, true, true, true, true, true, true, true, true, true, false, false, false, false, false, false, false, false, false, false, false, false, false, false, false, false, false, false, false, false, false, false, false, false, false, false, false, false, false, false, false, false] rfl rfl (any_of HT_.out (by kernel_rfl)) (fun _ _ _ h => h) (Or.inl ⟨by rfl, ?_⟩) ?_ ?_
  rotate_left
  ·intro w'
   go_simp
   with_reducible rfl
  rotate_left
  ·simp only [Act.put, List.setIfInBounds_toArray, List.set_cons_zero, List.set_cons_succ, i64_w, i32_w]
   rfl
  refine pure_ (i := 23) (N := some 66) (v := ?_) (a' := ?_) #[true, true, true, true, true, true, true, true, true, true, true, true, true, true, true, true, true, true, true, true, true, true, true, true, false, false, false, false, false, false, false, false, false, false, false, false, false, false, false, false, false, false, false, false, false, false, false, false, false, false, false, false, false, false, false] rfl rfl (any_of HT_.out (by kernel_rfl)) (fun _ _ _ h => h) (Or.inl ⟨by rfl, ?_⟩) ?_ ?_
  rotate_left
  ·intro w'
   go_simp
   with_reducible rfl
  rotate_left
  ·simp only [Act.put, List.setIfInBounds_toArray, List.set_cons_zero, List.set_cons_succ, i64_w, i32_w]
   rfl
  refine take_ (i := 24) (N := some 67) (v := ?_) (a' := ?_) #[true, true, true, true, true, true, true, true, true, true, true, true, true, true, true, true, true, true, true, true, true, true, true, true, true, false, false, false, false, false, false, false, false, false, false, false, false, false, false, false, false, false, false, false, false, false, false, false, false, false, false, false, false, false, false] rfl rfl (take_ofW HT_.out HW_.out (by kernel_rfl)) (fun _ _ _ h => h) (Or.inl ⟨by rfl, ?_⟩) hHeld ?_ ?_
  rotate_left
  ·rintro w' ⟨s0, s1, s2, s3, s4⟩
   go_simp
   with_reducible rfl
  rotate_left
  ·simp only [Act.put, List.setIfInBounds_toArray, List.set_cons_zero, List.set_cons_succ, i64_w, i32_w]
   rfl
  refine pure_ (i := 25) (N := some 68) (v := ?_) (a' := ?_) #[true, true, true, true, true, true, true, true, true, true, true, true, true, true, true, true, true, true, true, true, true, true, true, true, true, true, false, false, false, false, false, false, false, false, false, false, false, false, false, false, false, false, false, false, false, false, false, false, false, false, false, false, false, false, false] rfl rfl (any_of HT_.out (by kernel_rfl)) (fun _ _ _ h => h) (Or.inl ⟨by rfl, ?_⟩) ?_ ?_
  rotate_left
  ·intro w'
   go_simp
   with_reducible rfl
  rotate_left
  ·simp only [Act.put, List.setIfInBounds_toArray, List.set_cons_zero, List.set_cons_succ, i64_w, i32_w]
   rfl
  refine pure_ (i := 26) (N := some 69) (v := ?_) (a' := ?_) #[true, true, true, true, true, true, true, true, true, true, true, true, true, true, true, true, true, true, true, true, true, true, true, true, true, true, true, false, false, false, false, false, false, false, false, false, false, false, false, false, false, false, false, false, false, false, false, false, false, false, false, false, false, false, false] rfl rfl (any_of HT_.out (by kernel_rfl)) (fun _ _ _ h => h) (Or.inl ⟨by rfl, ?_⟩) ?_ ?_
  rotate_left
  ·intro w'
   go_simp
   with_reducible rfl
  rotate_left
  ·simp only [Act.put, List.setIfInBounds_toArray, List.set_cons_zero, List.set_cons_succ, i64_w, i32_w]
   rfl
  refine take_ (i := 27) (N := some 70) (v := ?_) (a' := ?_) #[true, true, true, true, true, true, true, true, true, true, true, true, true, true, true, true, true, true, true, true, true, true, true, true, true, true, true, true, false, false, false, false, false, false, false, false, false, false, false, false, false, false, false, false, false, false, false, false, false, false, false, false, false, false, false] rfl rfl (take_ofW HT_.out HW_.out (by kernel_rfl)) (fun _ _ _ h => h) (Or.inl ⟨by rfl, ?_⟩) hHeld ?_ ?_
  rotate_left
  ·rintro w' ⟨s0, s1, s2, s3, s4⟩
   go_simp
   with_reducible rfl
  rotate_left
  ·simp only [Act.put, List.setIfInBounds_toArray, List.set_cons_zero, List.set_cons_succ, i64_w, i32_w]
   rfl
  refine pure_ (i := 28) (N := some 71) (v := ?_) (a' := ?_) #[true, true, true, true, true, true, true, true, true, true, true, true, true, true, true, true, true, true, true, true, true, true, true, true, true, true, true, true, true, false, false, false, false, false, false, false, false, false, false, false, false, false, false, false, false, false, false, false, false, false, false, false, false, false, false] rfl rfl (any_of HT_.out (by kernel_rfl)) (fun _ _ _ h => h) (Or.inl ⟨by rfl, ?_⟩) ?_ ?_
  rotate_left
  ·intro w'
   go_simp
   with_reducible rfl
  rotate_left
  ·simp only [Act.put, List.setIfInBounds_toArray, List.set_cons_zero, List.set_cons_succ, i64_w, i32_w]
   rfl
  refine pure_ (i := 29) (N := some 72) (v := ?_) (a' := ?_) #[true, true, true, true, true, true, true, true, true, true, true, true, true, true, true, true, true, true, true, true, true, true, true, true, true, true, true, true, true, true, false, false, false, false, false, false, false, false, false, false, false, false, false, false, false, false, false, false, false, false, false, false, false, false, false] rfl rfl (any_of HT_.out (by kernel_rfl)) (fun _ _ _ h => h) (Or.inl ⟨by rfl, ?_⟩) ?_ ?_
  rotate_left
  ·intro w'
   go_simp
   with_reducible rfl
  rotate_left
  ·simp only [Act.put, List.setIfInBounds_toArray, List.set_cons_zero, List.set_cons_succ, i64_w, i32_w]
   rfl
  refine pure_ (i := 30) (N := some 73) (v := ?_) (a' := ?_) #[true, true, true, true, true, true, true, true, true, true, true, true, true, true, true, true, true, true, true, true, true, true, true, true, true, true, true, true, true, true, true, false, false, false, false, false, false, false, false, false, false, false, false, false, false, false, false, false, false, false, false, false, false, false, false] rfl rfl (any_of HT_.out (by kernel_rfl)) (fun _ _ _ h => h) (Or.inl ⟨by rfl, ?_⟩) ?_ ?_
  rotate_left
  ·intro w'
   go_simp
   with_reducible rfl
  rotate_left
  ·simp only [Act.put, List.setIfInBounds_toArray, List.set_cons_zero, List.set_cons_succ, i64_w, i32_w]
   rfl
  refine pure_ (i := 31) (N := some 74) (v := ?_) (a' := ?_) #[true, true, true, true, true, true, true, true, true, true, true, true, true, true, true, true, true, true, true, true, true, true, true, true, true, true, true, true, true, true, true, true, false, false, false, false, false, false, false, false, false, false, false, false, false, false, false, false, false, false, false, false, false, false, false] rfl rfl (any_of HT_.out (by kernel_rfl)) (fun _ _ _ h => h) (Or.inl ⟨by rfl, ?_⟩) ?_ ?_
  rotate_left
  ·intro w'
   go_simp
   with_reducible rfl
  rotate_left
  ·simp only [Act.put, List.setIfInBounds_toArray, List.set_cons_zero, List.set_cons_succ, i64_w, i32_w]
   rfl
  refine pure_ (i := 32) (N := some 75) (v := ?_) (a' := ?_) #[true, true, true, true, true, true, true, true, true, true, true, true, true, true, true, true, true, true, true, true, true, true, true, true, true, true, true, true, true, true, true, true, true, false, false, false, false, false, false, false, false, false, false, false, false, false, false, false, false, false, false, false, false, false, false] rfl rfl (any_of HT_.out (by kernel_rfl)) (fun _ _ _ h => h) (Or.inl ⟨by rfl, ?_⟩) ?_ ?_
  rotate_left
  ·intro w'
   go_simp
   with_reducible rfl
  rotate_left
  ·simp only [Act.put, List.setIfInBounds_toArray, List.set_cons_zero, List.set_cons_succ, i64_w, i32_w]
   rfl
  refine pure_ (i := 33) (N := some 76) (v := ?_) (a' := ?_) #[true, true, true, true, true, true, true, true, true, true, true, true, true, true, true, true, true, true, true, true, true, true, true, true, true, true, true, true, true, true, true, true, true, true, false, false, false, false, false, false, false, false, false, false, false, false, false, false, false, false, false, false, false, false, false] rfl rfl (any_of HT_.out (by kernel_rfl)) (fun _ _ _ h => h) (Or.inl ⟨by rfl, ?_⟩) ?_ ?_
  rotate_left
  ·intro w'
   go_simp
   with_reducible rfl
  rotate_left
  ·simp only [Act.put, List.setIfInBounds_toArray, List.set_cons_zero, List.set_cons_succ, i64_w, i32_w]
   rfl
  refine take_ (i := 34) (N := some 77) (v := ?_) (a' := ?_) #[true, true, true, true, true, true, true, true, true, true, true, true, true, true, true, true, true, true, true, true, true, true, true, true, true, true, true, true, true, true, true, true, true, true, true, false, false, false, false, false, false, false, false, false, false, false, false, false, false, false, false, false, false, false, false] rfl rfl (take_ofW HT_.out HW_.out (by kernel_rfl)) (fun _ _ _ h => h) (Or.inl ⟨by rfl, ?_⟩) hHeld ?_ ?_
  rotate_left
  ·rintro w' ⟨s0, s1, s2, s3, s4⟩
   go_simp
   with_reducible rfl
  rotate_left
  ·simp only [Act.put, List.setIfInBounds_toArray, List.set_cons_zero, List.set_cons_succ, i64_w, i32_w]
   rfl
  refine pure_ (i := 35) (N := some 78) (v := ?_) (a' := ?_) #[true, true, true, true, true, true, true, true, true, true, true, true, true, true, true, true, true, true, true, true, true, true, true, true, true, true, true, true, true, true, true, true, true, true, true, true, false, false, false, false, false, false, false, false, false, false, false, false, false, false, false, false, false, false, false] rfl rfl (any_of HT_.out (by kernel_rfl)) (fun _ _ _ h => h) (Or.inl ⟨by rfl, ?_⟩) ?_ ?_
  rotate_left
  ·intro w'
   go_simp
   with_reducible rfl
  rotate_left
  ·simp only [Act.put, List.setIfInBounds_toArray, List.set_cons_zero, List.set_cons_succ, i64_w, i32_w]
   rfl
  refine take_ (i := 36) (N := some 79) (v := ?_) (a' := ?_) #[true, true, true, true, true, true, true, true, true, true, true, true, true, true, true, true, true, true, true, true, true, true, true, true, true, true, true, true, true, true, true, true, true, true, true, true, true, false, false, false, false, false, false, false, false, false, false, false, false, false, false, false, false, false, false] rfl rfl (take_ofW HT_.out HW_.out (by kernel_rfl)) (fun _ _ _ h => h) (Or.inl ⟨by rfl, ?_⟩) hHeld ?_ ?_
  rotate_left
  ·rintro w' ⟨s0, s1, s2, s3, s4⟩
   go_simp
   with_reducible rfl
  rotate_left
  ·simp only [Act.put, List.setIfInBounds_toArray, List.set_cons_zero, List.set_cons_succ, i64_w, i32_w]
   rfl
  refine pure_ (i := 37) (N := some 80) (v := ?_) (a' := ?_) #[true, true, true, true, true, true, true, true, true, true, true, true, true, true, true, true, true, true, true, true, true, true, true, true, true, true, true, true, true, true, true, true, true, true, true, true, true, true, false, false, false, false, false, false, false, false, false, false, false, false, false, false, false, false, false] rfl rfl (any_of HT_.out (by kernel_rfl)) (fun _ _ _ h => h) (Or.inl ⟨by rfl, ?_⟩) ?_ ?_
  rotate_left
  ·intro w'
   go_simp
   with_reducible rfl
  rotate_left
  ·simp only [Act.put, List.setIfInBounds_toArray, List.set_cons_zero, List.set_cons_succ, i64_w, i32_w]
   rfl
  refine pure_ (i := 38) (N := some 81) (v := ?_) (a' := ?_) #[true, true, true, true, true, true, true, true, true, true, true, true, true, true, true, true, true, true, true, true, true, true, true, true, true, true, true, true, true, true, true, true, true, true, true, true, true, true, true, false, false, false, false, false, false, false, false, false, false, false, false, false, false, false, false] rfl rfl (any_of HT_.out (by kernel_rfl)) (fun _ _ _ h => h) (Or.inl ⟨by rfl, ?_⟩) ?_ ?_
  rotate_left
  ·intro w'
   go_simp
   with_reducible rfl
  rotate_left
  ·simp only [Act.put, List.setIfInBounds_toArray, List.set_cons_zero, List.set_cons_succ, i64_w, i32_w]
   rfl
  refine pure_ (i := 39) (N := some 82) (v := ?_) (a' := ?_) #[true, true, true, true, true, true, true, true, true, true, true, true, true, true, true, true, true, true, true, true, true, true, true, true, true, true, true, true, true, true, true, true, true, true, true, true, true, true, true, true, false, false, false, false, false, false, false, false, false, false, false, false, false, false, false] rfl rfl (any_of HT_.out (by kernel_rfl)) (fun _ _ _ h => h) (Or.inl ⟨by rfl, ?_⟩) ?_ ?_
  rotate_left
  ·intro w'
   go_simp
   with_reducible rfl
  rotate_left
  ·simp only [Act.put, List.setIfInBounds_toArray, List.set_cons_zero, List.set_cons_succ, i64_w, i32_w]
   rfl
  refine take_ (i := 40) (N := some 83) (v := ?_) (a' := ?_) #[true, true, true, true, true, true, true, true, true, true, true, true, true, true, true, true, true, true, true, true, true, true, true, true, true, true, true, true, true, true, true, true, true, true, true, true, true, true, true, true, true, false, false, false, false, false, false, false, false, false, false, false, false, false, false] rfl rfl (take_ofW HT_.out HW_.out (by kernel_rfl)) (fun _ _ _ h => h) (Or.inl ⟨by rfl, ?_⟩) hHeld ?_ ?_
  rotate_left
  ·rintro w' ⟨s0, s1, s2, s3, s4⟩
   go_simp
   with_reducible rfl
  rotate_left
  ·simp only [Act.put, List.setIfInBounds_toArray, List.set_cons_zero, List.set_cons_succ, i64_w, i32_w]
   rfl
  refine one_ (i := 41) (N := some 84) #[true, true, true, true, true, true, true, true, true, true, true, true, true, true, true, true, true, true, true, true, true, true, true, true, true, true, true, true, true, true, true, true, true, true, true, true, true, true, true, true, true, true, false, false, false, false, false, false, false, false, false, false, false, false, false] rfl rfl (one_of HT_.out (by kernel_rfl)) (by decide) (fun K hK => ?_)
  refine goes_ Try.func34 (by kernel_rfl) rfl #[.slice E7 m e7, .slice A7 m c7] (by rfl) rfl rfl (by (try simp only [List.map_toArray, List.map_cons, List.map_nil]); first | done | rfl | (simp only [List.length_drop, List.length_take]; rfl)) ?_
  refine (T3.out wc HBz.out).mono ?_
  rintro e wd ⟨rfl, hbn⟩
  refine ⟨_, rfl, ?_⟩
  have HBz := Aside0.mk (HBz.out.trans (hbn.mono HBz.out.size))
  clear hbn
  refine hK.out _ _ ⟨below_cell HBz.out S1.out, below_cell HBz.out S2.out, below_cell HBz.out S3.out, below_cell HBz.out S4.out, below_cell HBz.out S5.out⟩ (fun hHeld => ?_)
  clear hK K
  refine norm_ (a' := ?_) ?_ ?_
  rotate_left
  ·show Act.put _ (some 84) _ = _
   simp only [Act.put, List.setIfInBounds_toArray, List.set_cons_zero, List.set_cons_succ, i64_w, i32_w]
   rfl
  refine pure_ (i := 42) (N := some 85) (v := ?_) (a' := ?_) #[true, true, true, true, true, true, true, true, true, true, true, true, true, true, true, true, true, true, true, true, true, true, true, true, true, true, true, true, true, true, true, true, true, true, true, true, true, true, true, true, true, true, true, false, false, false, false, false, false, false, false, false, false, false, false] rfl rfl (any_of HT_.out (by kernel_rfl)) (fun _ _ _ h => h) (Or.inl ⟨by rfl, ?_⟩) ?_ ?_
  rotate_left
  ·intro w'
   go_simp
   with_reducible rfl
  rotate_left
  ·simp only [Act.put, List.setIfInBounds_toArray, List.set_cons_zero, List.set_cons_succ, i64_w, i32_w]
   rfl
  refine pure_ (i := 43) (N := some 86) (v := ?_) (a' := ?_) #[true, true, true, true, true, true, true, true, true, true, true, true, true, true, true, true, true, true, true, true, true, true, true, true, true, true, true, true, true, true, true, true, true, true, true, true, true, true, true, true, true, true, true, true, false, false, false, false, false, false, false, false, false, false, false] rfl rfl (any_of HT_.out (by kernel_rfl)) (fun _ _ _ h => h) (Or.inl ⟨by rfl, ?_⟩) ?_ ?_
  rotate_left
  ·intro w'
   go_simp
   with_reducible rfl
  rotate_left
  ·simp only [Act.put, List.setIfInBounds_toArray, List.set_cons_zero, List.set_cons_succ, i64_w, i32_w]
   rfl
  refine pure_ (i := 44) (N := some 87) (v := ?_) (a' := ?_) #[true, true, true, true, true, true, true, true, true, true, true, true, true, true, true, true, true, true, true, true, true, true, true, true, true, true, true, true, true, true, true, true, true, true, true, true, true, true, true, true, true, true, true, true, true, false, false, false, false, false, false, false, false, false, false] rfl rfl (any_of HT_.out (by kernel_rfl)) (fun _ _ _ h => h) (Or.inl ⟨by rfl, ?_⟩) ?_ ?_
  rotate_left
  ·intro w'
   go_simp
   with_reducible rfl
  rotate_left
  ·simp only [Act.put, List.setIfInBounds_toArray, List.set_cons_zero, List.set_cons_succ, i64_w, i32_w]
   rfl
  refine take_ (i := 45) (N := some 88) (v := ?_) (a' := ?_) #[true, true, true, true, true, true, true, true, true, true, true, true, true, true, true, true, true, true, true, true, true, true, true, true, true, true, true, true, true, true, true, true, true, true, true, true, true, true, true, true, true, true, true, true, true, true, false, false, false, false, false, false, false, false, false] rfl rfl (take_ofW HT_.out HW_.out (by kernel_rfl)) (fun _ _ _ h => h) (Or.inl ⟨by rfl, ?_⟩) hHeld ?_ ?_
  rotate_left
  ·rintro w' ⟨s0, s1, s2, s3, s4⟩
   go_simp
   with_reducible rfl
  rotate_left
  ·simp only [Act.put, List.setIfInBounds_toArray, List.set_cons_zero, List.set_cons_succ, i64_w, i32_w]
   rfl
  refine pure_ (i := 46) (N := some 89) (v := ?_) (a' := ?_) #[true, true, true, true, true, true, true, true, true, true, true, true, true, true, true, true, true, true, true, true, true, true, true, true, true, true, true, true, true, true, true, true, true, true, true, true, true, true, true, true, true, true, true, true, true, true, true, false, false, false, false, false, false, false, false] rfl rfl (any_of HT_.out (by kernel_rfl)) (fun _ _ _ h => h) (Or.inl ⟨by rfl, ?_⟩) ?_ ?_
  rotate_left
  ·intro w'
   go_simp
   with_reducible rfl
  rotate_left
  ·simp only [Act.put, List.setIfInBounds_toArray, List.set_cons_zero, List.set_cons_succ, i64_w, i32_w]
   rfl
  refine take_ (i := 47) (N := some 90) (v := ?_) (a' := ?_) #[true, true, true, true, true, true, true, true, true, true, true, true, true, true, true, true, true, true, true, true, true, true, true, true, true, true, true, true, true, true, true, true, true, true, true, true, true, true, true, true, true, true, true, true, true, true, true, true, false, false, false, false, false, false, false] rfl rfl (take_ofW HT_.out HW_.out (by kernel_rfl)) (fun _ _ _ h => h) (Or.inl ⟨by rfl, ?_⟩) hHeld ?_ ?_
  rotate_left
  ·rintro w' ⟨s0, s1, s2, s3, s4⟩
   go_simp
   with_reducible rfl
  rotate_left
  ·simp only [Act.put, List.setIfInBounds_toArray, List.set_cons_zero, List.set_cons_succ, i64_w, i32_w]
   rfl
  refine pure_ (i := 48) (N := some 91) (v := ?_) (a' := ?_) #[true, true, true, true, true, true, true, true, true, true, true, true, true, true, true, true, true, true, true, true, true, true, true, true, true, true, true, true, true, true, true, true, true, true, true, true, true, true, true, true, true, true, true, true, true, true, true, true, true, false, false, false, false, false, false] rfl rfl (any_of HT_.out (by kernel_rfl)) (fun _ _ _ h => h) (Or.inl ⟨by rfl, ?_⟩) ?_ ?_
  rotate_left
  ·intro w'
   go_simp
   with_reducible rfl
  rotate_left
  ·simp only [Act.put, List.setIfInBounds_toArray, List.set_cons_zero, List.set_cons_succ, i64_w, i32_w]
   rfl
  refine pure_ (i := 49) (N := some 92) (v := ?_) (a' := ?_) #[true, true, true, true, true, true, true, true, true, true, true, true, true, true, true, true, true, true, true, true, true, true, true, true, true, true, true, true, true, true, true, true, true, true, true, true, true, true, true, true, true, true, true, true, true, true, true, true, true, true, false, false, false, false, false] rfl rfl (any_of HT_.out (by kernel_rfl)) (fun _ _ _ h => h) (Or.inl ⟨by rfl, ?_⟩) ?_ ?_
  rotate_left
  ·intro w'
   go_simp
   with_reducible rfl
  rotate_left
  ·simp only [Act.put, List.setIfInBounds_toArray, List.set_cons_zero, List.set_cons_succ, i64_w, i32_w]
   rfl
  refine pure_ (i := 50) (N := some 93) (v := ?_) (a' := ?_) #[true, true, true, true, true, true, true, true, true, true, true, true, true, true, true, true, true, true, true, true, true, true, true, true, true, true, true, true, true, true, true, true, true, true, true, true, true, true, true, true, true, true, true, true, true, true, true, true, true, true, true, false, false, false, false] rfl rfl (any_of HT_.out (by kernel_rfl)) (fun _ _ _ h => h) (Or.inl ⟨by rfl, ?_⟩) ?_ ?_
  rotate_left
  ·intro w'
   go_simp
   with_reducible rfl
  rotate_left
  ·simp only [Act.put, List.setIfInBounds_toArray, List.set_cons_zero, List.set_cons_succ, i64_w, i32_w]
   rfl
  refine take_ (i := 51) (N := some 94) (v := ?_) (a' := ?_) #[true, true, true, true, true, true, true, true, true, true, true, true, true, true, true, true, true, true, true, true, true, true, true, true, true, true, true, true, true, true, true, true, true, true, true, true, true, true, true, true, true, true, true, true, true, true, true, true, true, true, true, true, false, false, false] rfl rfl (take_ofW HT_.out HW_.out (by kernel_rfl)) (fun _ _ _ h => h) (Or.inl ⟨by rfl, ?_⟩) hHeld ?_ ?_
  rotate_left
  ·rintro w' ⟨s0, s1, s2, s3, s4⟩
   go_simp
   with_reducible rfl
  rotate_left
  ·simp only [Act.put, List.setIfInBounds_toArray, List.set_cons_zero, List.set_cons_succ, i64_w, i32_w]
   rfl
  refine one_ (i := 52) (N := some 95) #[true, true, true, true, true, true, true, true, true, true, true, true, true, true, true, true, true, true, true, true, true, true, true, true, true, true, true, true, true, true, true, true, true, true, true, true, true, true, true, true, true, true, true, true, true, true, true, true, true, true, true, true, true, false, false] rfl rfl (one_of HT_.out (by kernel_rfl)) (by decide) (fun K hK => ?_)
  refine goes_ Try.func34 (by kernel_rfl) rfl #[.slice EQ p (e7 - m), .slice H7 p h7] (by rfl) rfl rfl (by (try simp only [List.map_toArray, List.map_cons, List.map_nil]); first | done | rfl | (simp only [List.length_drop, List.length_take]; rfl)) ?_
  refine (T4.out wd HBz.out).mono ?_
  rintro e we ⟨rfl, hbn⟩
  refine ⟨_, rfl, ?_⟩
  have HBz := Aside0.mk (HBz.out.trans (hbn.mono HBz.out.size))
  clear hbn
  refine hK.out _ _ ⟨below_cell HBz.out S1.out, below_cell HBz.out S2.out, below_cell HBz.out S3.out, below_cell HBz.out S4.out, below_cell HBz.out S5.out⟩ (fun hHeld => ?_)
  clear hK K
  refine norm_ (a' := ?_) ?_ ?_
  rotate_left
  ·show Act.put _ (some 95) _ = _
   simp only [Act.put, List.setIfInBounds_toArray, List.set_cons_zero, List.set_cons_succ, i64_w, i32_w]
   rfl
  refine pure_ (i := 53) (N := some 96) (v := ?_) (a' := ?_) #[true, true, true, true, true, true, true, true, true, true, true, true, true, true, true, true, true, true, true, true, true, true, true, true, true, true, true, true, true, true, true, true, true, true, true, true, true, true, true, true, true, true, true, true, true, true, true, true, true, true, true, true, true, true, false] rfl rfl (any_of HT_.out (by kernel_rfl)) (fun _ _ _ h => h) (Or.inl ⟨by rfl, ?_⟩) ?_ ?_
  rotate_left
  ·intro w'
   go_simp
   with_reducible rfl
  rotate_left
  ·simp only [Act.put, List.setIfInBounds_toArray, List.set_cons_zero, List.set_cons_succ, i64_w, i32_w]
   rfl
  refine pure_ (i := 54) (N := some 6) (v := ?_) (a' := ?_) #[true, true, true, true, true, true, true, true, true, true, true, true, true, true, true, true, true, true, true, true, true, true, true, true, true, true, true, true, true, true, true, true, true, true, true, true, true, true, true, true, true, true, true, true, true, true, true, true, true, true, true, true, true, true, true] rfl rfl (any_of HT_.out (by kernel_rfl)) (fun _ _ _ h => h) (Or.inl ⟨by rfl, ?_⟩) ?_ ?_
  rotate_left
  ·intro w'
   go_simp
   with_reducible rfl
  rotate_left
  ·simp only [Act.put, List.setIfInBounds_toArray, List.set_cons_zero, List.set_cons_succ, i64_w, i32_w]
   rfl
  refine done_ (done_of HT_.out (by kernel_rfl)) ?_
  clear hHeld
  go_wp2
  go_ret
  exact ⟨rfl, hHB.out.trans (HBz.out.mono hHB.out.size)⟩
end
end Go.Proofs.Ytkaikgbcnmfppaa.Nb
