/- net.Draw walked. Made by mk_draw.py. -/
import Derived.Test.YtkaikgbcnmfppaaNbExch
import Derived.Test.YtkaikgbcnmfppaaNbFFieldDraw
import Derived.BigRegion
namespace Go.Proofs.Ytkaikgbcnmfppaa.Nb
open Go Go.RowKit Go.Proofs.YtkaikgbcnmfppaaW.PrintWords Go.Proofs.YtkaikgbcnmfppaaW.PrintLast Go.Proofs.YtkaikgbcnmfppaaW.PrintMore
attribute [local go_sem] max2_int min2_int max_two min_two max_three min_three max_four min_four
set_option linter.unusedVariables false
set_option linter.unusedSimpArgs false
noncomputable section
/-- What Draw hands back. -/
def DrawPost (W : World) (l : List Int) (x : S30) (er : Int) (e : Ending) (w' : World) : Prop :=
 ∃ G d A3 c3 A4 c4 A5 c5 A7 c7, e = .returned (.tuple #[.slice G l.length d, .agg (wv x A3 c3 A4 c4 A5 c5 A7 c7), .int .i64 er]) ∧ (Kd.int .u64).C w' G l.length l ∧ l.length ≤ d ∧ k30.K w' x (wv x A3 c3 A4 c4 A5 c5 A7 c7).toList ∧ Below W.heap.size W w'
def netDraw.T6 : Bool × List (List Nat × List Nat) := (true, [([], []), ([0], [0]), ([1], [1]), ([], []), ([3], [3]), ([], []), ([5], [5]), ([4, 6], [4, 6]), ([7], [7]), ([], []), ([2, 8, 9], [2, 8, 9]), ([10], [10]), ([11], [11]), ([11], [11]), ([11], [11]), ([12, 10, 0, 1, 2, 3, 4, 5, 6, 7, 8, 9, 10, 11, 12], [12]), ([13, 15, 0, 1, 2, 3, 4, 5, 6, 7, 8, 9, 10, 11, 12, 13, 15], [13]), ([14, 16, 0, 1, 2, 3, 4, 5, 6, 7, 8, 9, 10, 11, 12, 13, 14, 15, 16], [14])])
def netDraw.B6 : List Nat := [0, 1, 3, 0, 8, 0, 32, 120, 248, 0, 1023, 2047, 4095, 4095, 4095, 8191, 49151, 131071]
theorem netDraw.tab6 : rtab .any (opsOf Try.f37 6) = netDraw.T6 := by kernel_rfl
theorem netDraw.bits6 : waitsOk netDraw.T6.2 netDraw.B6 = true := by kernel_rfl
def netDraw.T11 : Bool × List (List Nat × List Nat) := (true, [([], []), ([], []), ([0, 0], [0]), ([1, 2, 0, 1, 2], [1]), ([3, 0, 1, 2, 3], [])])
def netDraw.B11 : List Nat := [0, 0, 1, 7, 15]
theorem netDraw.tab11 : rtab .any (opsOf Try.f37 11) = netDraw.T11 := by kernel_rfl
theorem netDraw.bits11 : waitsOk netDraw.T11.2 netDraw.B11 = true := by kernel_rfl
set_option maxHeartbeats 8000000 in
set_option maxRecDepth 100000 in
theorem draw_bad (k : Nat) (x : S30) (A3 : Option Addr) (c3 : Nat) (A4 : Option Addr) (c4 : Nat) (A5 : Option Addr) (c5 : Nat) (A7 : Option Addr) (c7 : Nat) (a n : Int) (w : World) (hx : k30.K w x (wv x A3 c3 A4 c4 A5 c5 A7 c7).toList) (r : Int) (hc : wcheck k x = some r) (hr : r ≠ 0) :
  Calls Try.prog 37 #[.agg (wv x A3 c3 A4 c4 A5 c5 A7 c7), .int .i64 a, .int .i64 n] w (DrawPost w [] z30 r) := by
 have hu30 := Try.underlying30
 have hu24 := Try.underlying24
 have HX := Aside0.mk (XF.of hx)
 have HC := Aside0.mk (show net_Check.f k x.f0.f0 x.f0.f1 x.f0.f2 x.f1 x.f2 x.f3 x.f4 x.f5 = some r from hc)
 have hr1 : (r != 0) = true := by simp [hr]
 have hr2 : (r == 0) = false := by simp [hr]
 clear hc hr hx
 go_enter Try.func37, Try.ntmps37
 go_wp2_with (first
   | ((with_reducible refine gate_dst (N := 3) rfl ?_); refine box_event ?hg (N := 3) ?hd (cs := wv x A3 c3 A4 c4 A5 c5 A7 c7) (t := 30) ?hr ?_; (case hd => rfl); (case hg => rfl); (case hr => first | (go_simp; done) | (go_simp; rfl)); intro g3 hg3 w3 hbox hb3; have Q3 := Aside0.mk hbox; have HB := Aside0.mk hb3; have GE3 := Aside0.mk (show w.heap.size ≤ g3 from Nat.le_of_eq hg3.symm); clear hg3 hbox hb3)
   | ((with_reducible refine gate_dst (N := 7) rfl ?_); refine box_event ?hg (N := 7) ?hd (cs := #[.int .u64 0, .int .i64 0, .int .i64 0, .slice none 0 0, .slice none 0 0, .slice none 0 0, .int .i64 0, .slice none 0 0]) (t := 30) ?hr ?_; (case hd => rfl); (case hg => rfl); (case hr => first | (go_simp; done) | (go_simp; rfl)); intro g7 hg7 w7 hbox hb7; have Q7 := Aside0.mk hbox; have NE := Aside0.mk (show g3 ≠ g7 from by rw [hg7]; exact Nat.ne_of_lt (blk_lt Q3.out)); have GE7 := Aside0.mk (show w.heap.size ≤ g7 from by rw [hg7]; exact HB.out.size); have Q3 := Aside0.mk (blk_below Q3.out hb7); have HB := Aside0.mk (HB.out.trans (hb7.mono HB.out.size)); clear hg7 hbox hb7; have hx0 : w7.cell? ⟨g3, 0, none⟩ = some (.int .u64 x.f0.f0) := (blk_cell Q3.out 0).trans rfl; have hx1 : w7.cell? ⟨g3, 1, none⟩ = some (.int .i64 x.f0.f1) := (blk_cell Q3.out 1).trans rfl; have hx2 : w7.cell? ⟨g3, 2, none⟩ = some (.int .i64 x.f0.f2) := (blk_cell Q3.out 2).trans rfl; have hx3 : w7.cell? ⟨g3, 3, none⟩ = some (.slice A3 x.f1.length c3) := (blk_cell Q3.out 3).trans rfl; have hx4 : w7.cell? ⟨g3, 4, none⟩ = some (.slice A4 x.f2.length c4) := (blk_cell Q3.out 4).trans rfl; have hx5 : w7.cell? ⟨g3, 5, none⟩ = some (.slice A5 x.f3.length c5) := (blk_cell Q3.out 5).trans rfl; have hx6 : w7.cell? ⟨g3, 6, none⟩ = some (.int .i64 x.f4) := (blk_cell Q3.out 6).trans rfl; have hx7 : w7.cell? ⟨g3, 7, none⟩ = some (.slice A7 x.f5.length c7) := (blk_cell Q3.out 7).trans rfl)
   | (go_at_call 11; refine (net_Check.calls k x.f0.f0 x.f0.f1 x.f0.f2 A3 c3 x.f1 A4 c4 x.f2 A5 c5 x.f3 x.f4 A7 c7 x.f5 r w7 (Kd.F_now (HX.out.below HB.out).r3) HX.out.l3 (Kd.F_now (HX.out.below HB.out).r4) HX.out.l4 (Kd.F_now (HX.out.below HB.out).r5) HX.out.l5 (Kd.F_now (HX.out.below HB.out).r7) HX.out.l7 HC.out).mono ?_; rintro e wc ⟨rfl, hbc⟩; have Q3 := Aside0.mk (blk_below Q3.out hbc); have Q7 := Aside0.mk (blk_below Q7.out hbc); have HB := Aside0.mk (HB.out.trans (hbc.mono HB.out.size)); clear hbc; clear hx0 hx1 hx2 hx3 hx4 hx5 hx6 hx7; have hx0 : wc.cell? ⟨g3, 0, none⟩ = some (.int .u64 x.f0.f0) := (blk_cell Q3.out 0).trans rfl; have hx1 : wc.cell? ⟨g3, 1, none⟩ = some (.int .i64 x.f0.f1) := (blk_cell Q3.out 1).trans rfl; have hx2 : wc.cell? ⟨g3, 2, none⟩ = some (.int .i64 x.f0.f2) := (blk_cell Q3.out 2).trans rfl; have hx3 : wc.cell? ⟨g3, 3, none⟩ = some (.slice A3 x.f1.length c3) := (blk_cell Q3.out 3).trans rfl; have hx4 : wc.cell? ⟨g3, 4, none⟩ = some (.slice A4 x.f2.length c4) := (blk_cell Q3.out 4).trans rfl; have hx5 : wc.cell? ⟨g3, 5, none⟩ = some (.slice A5 x.f3.length c5) := (blk_cell Q3.out 5).trans rfl; have hx6 : wc.cell? ⟨g3, 6, none⟩ = some (.int .i64 x.f4) := (blk_cell Q3.out 6).trans rfl; have hx7 : wc.cell? ⟨g3, 7, none⟩ = some (.slice A7 x.f5.length c7) := (blk_cell Q3.out 7).trans rfl; have hz0 : wc.cell? ⟨g7, 0, none⟩ = some (.int .u64 0) := (blk_cell Q7.out 0).trans rfl; have hz1 : wc.cell? ⟨g7, 1, none⟩ = some (.int .i64 0) := (blk_cell Q7.out 1).trans rfl; have hz2 : wc.cell? ⟨g7, 2, none⟩ = some (.int .i64 0) := (blk_cell Q7.out 2).trans rfl; have hz3 : wc.cell? ⟨g7, 3, none⟩ = some (.slice none 0 0) := (blk_cell Q7.out 3).trans rfl; have hz4 : wc.cell? ⟨g7, 4, none⟩ = some (.slice none 0 0) := (blk_cell Q7.out 4).trans rfl; have hz5 : wc.cell? ⟨g7, 5, none⟩ = some (.slice none 0 0) := (blk_cell Q7.out 5).trans rfl; have hz6 : wc.cell? ⟨g7, 6, none⟩ = some (.int .i64 0) := (blk_cell Q7.out 6).trans rfl; have hz7 : wc.cell? ⟨g7, 7, none⟩ = some (.slice none 0 0) := (blk_cell Q7.out 7).trans rfl; have hf0 := blk_frozen Q7.out 0; have hf1 := blk_frozen Q7.out 1; have hf2 := blk_frozen Q7.out 2; have hf3 := blk_frozen Q7.out 3; have hf4 := blk_frozen Q7.out 4; have hf5 := blk_frozen Q7.out 5; have hf6 := blk_frozen Q7.out 6; have hf7 := blk_frozen Q7.out 7))
 rw [show ((((((((wc.setCell ⟨g7, 0, none⟩ (.int .u64 0)).setCell ⟨g7, 1, none⟩ (.int .i64 0)).setCell ⟨g7, 2, none⟩ (.int .i64 0)).setCell ⟨g7, 3, none⟩ (.slice none 0 0)).setCell ⟨g7, 4, none⟩ (.slice none 0 0)).setCell ⟨g7, 5, none⟩ (.slice none 0 0)).setCell ⟨g7, 6, none⟩ (.int .i64 0)).setCell ⟨g7, 7, none⟩ (.slice none 0 0)) = put8 wc g7 (.int .u64 0) (.int .i64 0) (.int .i64 0) (.slice none 0 0) (.slice none 0 0) (.slice none 0 0) (.int .i64 0) (.slice none 0 0) from rfl]
 refine bodyPost_ret (results_list (rs := [.tmp 6, .cell 7 30, .tmp 8]) rfl (by simp) (.tmp (.cell g7 30 #[.int .u64 0, .int .i64 0, .int .i64 0, .slice none 0 0, .slice none 0 0, .slice none 0 0, .int .i64 0, .slice none 0 0] (0, 0) _ rfl (blk8 Q7.out (.int .u64 0) (.int .i64 0) (.int .i64 0) (.slice none 0 0) (.slice none 0 0) (.slice none 0 0) (.int .i64 0) (.slice none 0 0)) Try.underlying30 rfl (by kernel_rfl) (.tmp .nil)))) (by rfl) ?_
 exact ⟨none, 0, none, 0, none, 0, none, 0, none, 0, rfl, Kd.C_nil _ _, Nat.le_refl _, exch_zero _ none none none none 0 0 0 0, below8 HB.out GE7.out (.int .u64 0) (.int .i64 0) (.int .i64 0) (.slice none 0 0) (.slice none 0 0) (.slice none 0 0) (.int .i64 0) (.slice none 0 0)⟩
set_option maxHeartbeats 8000000 in
set_option maxRecDepth 100000 in
theorem draw_low (k : Nat) (x : S30) (A3 : Option Addr) (c3 : Nat) (A4 : Option Addr) (c4 : Nat) (A5 : Option Addr) (c5 : Nat) (A7 : Option Addr) (c7 : Nat) (a n : Int) (w : World) (hx : k30.K w x (wv x A3 c3 A4 c4 A5 c5 A7 c7).toList) (hc : wcheck k x = some 0) (ha : a < 1) :
  Calls Try.prog 37 #[.agg (wv x A3 c3 A4 c4 A5 c5 A7 c7), .int .i64 a, .int .i64 n] w (DrawPost w [] z30 2) := by
 have hu30 := Try.underlying30
 have hu24 := Try.underlying24
 have HX := Aside0.mk (XF.of hx)
 have HC := Aside0.mk (show net_Check.f k x.f0.f0 x.f0.f1 x.f0.f2 x.f1 x.f2 x.f3 x.f4 x.f5 = some 0 from hc)
 have hr1 : decide (a < 1) = true := decide_eq_true ha
 clear hc hx
 go_enter Try.func37, Try.ntmps37
 go_wp2_with (first
   | ((with_reducible refine gate_dst (N := 3) rfl ?_); refine box_event ?hg (N := 3) ?hd (cs := wv x A3 c3 A4 c4 A5 c5 A7 c7) (t := 30) ?hr ?_; (case hd => rfl); (case hg => rfl); (case hr => first | (go_simp; done) | (go_simp; rfl)); intro g3 hg3 w3 hbox hb3; have Q3 := Aside0.mk hbox; have HB := Aside0.mk hb3; have GE3 := Aside0.mk (show w.heap.size ≤ g3 from Nat.le_of_eq hg3.symm); clear hg3 hbox hb3)
   | ((with_reducible refine gate_dst (N := 7) rfl ?_); refine box_event ?hg (N := 7) ?hd (cs := #[.int .u64 0, .int .i64 0, .int .i64 0, .slice none 0 0, .slice none 0 0, .slice none 0 0, .int .i64 0, .slice none 0 0]) (t := 30) ?hr ?_; (case hd => rfl); (case hg => rfl); (case hr => first | (go_simp; done) | (go_simp; rfl)); intro g7 hg7 w7 hbox hb7; have Q7 := Aside0.mk hbox; have NE := Aside0.mk (show g3 ≠ g7 from by rw [hg7]; exact Nat.ne_of_lt (blk_lt Q3.out)); have GE7 := Aside0.mk (show w.heap.size ≤ g7 from by rw [hg7]; exact HB.out.size); have Q3 := Aside0.mk (blk_below Q3.out hb7); have HB := Aside0.mk (HB.out.trans (hb7.mono HB.out.size)); clear hg7 hbox hb7; have hx0 : w7.cell? ⟨g3, 0, none⟩ = some (.int .u64 x.f0.f0) := (blk_cell Q3.out 0).trans rfl; have hx1 : w7.cell? ⟨g3, 1, none⟩ = some (.int .i64 x.f0.f1) := (blk_cell Q3.out 1).trans rfl; have hx2 : w7.cell? ⟨g3, 2, none⟩ = some (.int .i64 x.f0.f2) := (blk_cell Q3.out 2).trans rfl; have hx3 : w7.cell? ⟨g3, 3, none⟩ = some (.slice A3 x.f1.length c3) := (blk_cell Q3.out 3).trans rfl; have hx4 : w7.cell? ⟨g3, 4, none⟩ = some (.slice A4 x.f2.length c4) := (blk_cell Q3.out 4).trans rfl; have hx5 : w7.cell? ⟨g3, 5, none⟩ = some (.slice A5 x.f3.length c5) := (blk_cell Q3.out 5).trans rfl; have hx6 : w7.cell? ⟨g3, 6, none⟩ = some (.int .i64 x.f4) := (blk_cell Q3.out 6).trans rfl; have hx7 : w7.cell? ⟨g3, 7, none⟩ = some (.slice A7 x.f5.length c7) := (blk_cell Q3.out 7).trans rfl)
   | (go_at_call 11; refine (net_Check.calls k x.f0.f0 x.f0.f1 x.f0.f2 A3 c3 x.f1 A4 c4 x.f2 A5 c5 x.f3 x.f4 A7 c7 x.f5 0 w7 (Kd.F_now (HX.out.below HB.out).r3) HX.out.l3 (Kd.F_now (HX.out.below HB.out).r4) HX.out.l4 (Kd.F_now (HX.out.below HB.out).r5) HX.out.l5 (Kd.F_now (HX.out.below HB.out).r7) HX.out.l7 HC.out).mono ?_; rintro e wc ⟨rfl, hbc⟩; have Q3 := Aside0.mk (blk_below Q3.out hbc); have Q7 := Aside0.mk (blk_below Q7.out hbc); have HB := Aside0.mk (HB.out.trans (hbc.mono HB.out.size)); clear hbc; clear hx0 hx1 hx2 hx3 hx4 hx5 hx6 hx7; have hx0 : wc.cell? ⟨g3, 0, none⟩ = some (.int .u64 x.f0.f0) := (blk_cell Q3.out 0).trans rfl; have hx1 : wc.cell? ⟨g3, 1, none⟩ = some (.int .i64 x.f0.f1) := (blk_cell Q3.out 1).trans rfl; have hx2 : wc.cell? ⟨g3, 2, none⟩ = some (.int .i64 x.f0.f2) := (blk_cell Q3.out 2).trans rfl; have hx3 : wc.cell? ⟨g3, 3, none⟩ = some (.slice A3 x.f1.length c3) := (blk_cell Q3.out 3).trans rfl; have hx4 : wc.cell? ⟨g3, 4, none⟩ = some (.slice A4 x.f2.length c4) := (blk_cell Q3.out 4).trans rfl; have hx5 : wc.cell? ⟨g3, 5, none⟩ = some (.slice A5 x.f3.length c5) := (blk_cell Q3.out 5).trans rfl; have hx6 : wc.cell? ⟨g3, 6, none⟩ = some (.int .i64 x.f4) := (blk_cell Q3.out 6).trans rfl; have hx7 : wc.cell? ⟨g3, 7, none⟩ = some (.slice A7 x.f5.length c7) := (blk_cell Q3.out 7).trans rfl; have hz0 : wc.cell? ⟨g7, 0, none⟩ = some (.int .u64 0) := (blk_cell Q7.out 0).trans rfl; have hz1 : wc.cell? ⟨g7, 1, none⟩ = some (.int .i64 0) := (blk_cell Q7.out 1).trans rfl; have hz2 : wc.cell? ⟨g7, 2, none⟩ = some (.int .i64 0) := (blk_cell Q7.out 2).trans rfl; have hz3 : wc.cell? ⟨g7, 3, none⟩ = some (.slice none 0 0) := (blk_cell Q7.out 3).trans rfl; have hz4 : wc.cell? ⟨g7, 4, none⟩ = some (.slice none 0 0) := (blk_cell Q7.out 4).trans rfl; have hz5 : wc.cell? ⟨g7, 5, none⟩ = some (.slice none 0 0) := (blk_cell Q7.out 5).trans rfl; have hz6 : wc.cell? ⟨g7, 6, none⟩ = some (.int .i64 0) := (blk_cell Q7.out 6).trans rfl; have hz7 : wc.cell? ⟨g7, 7, none⟩ = some (.slice none 0 0) := (blk_cell Q7.out 7).trans rfl; have hf0 := blk_frozen Q7.out 0; have hf1 := blk_frozen Q7.out 1; have hf2 := blk_frozen Q7.out 2; have hf3 := blk_frozen Q7.out 3; have hf4 := blk_frozen Q7.out 4; have hf5 := blk_frozen Q7.out 5; have hf6 := blk_frozen Q7.out 6; have hf7 := blk_frozen Q7.out 7))
 rw [show ((((((((wc.setCell ⟨g7, 0, none⟩ (.int .u64 0)).setCell ⟨g7, 1, none⟩ (.int .i64 0)).setCell ⟨g7, 2, none⟩ (.int .i64 0)).setCell ⟨g7, 3, none⟩ (.slice none 0 0)).setCell ⟨g7, 4, none⟩ (.slice none 0 0)).setCell ⟨g7, 5, none⟩ (.slice none 0 0)).setCell ⟨g7, 6, none⟩ (.int .i64 0)).setCell ⟨g7, 7, none⟩ (.slice none 0 0)) = put8 wc g7 (.int .u64 0) (.int .i64 0) (.int .i64 0) (.slice none 0 0) (.slice none 0 0) (.slice none 0 0) (.int .i64 0) (.slice none 0 0) from rfl]
 refine bodyPost_ret (results_list (rs := [.tmp 6, .cell 7 30, .tmp 8]) rfl (by simp) (.tmp (.cell g7 30 #[.int .u64 0, .int .i64 0, .int .i64 0, .slice none 0 0, .slice none 0 0, .slice none 0 0, .int .i64 0, .slice none 0 0] (0, 0) _ rfl (blk8 Q7.out (.int .u64 0) (.int .i64 0) (.int .i64 0) (.slice none 0 0) (.slice none 0 0) (.slice none 0 0) (.int .i64 0) (.slice none 0 0)) Try.underlying30 rfl (by kernel_rfl) (.tmp .nil)))) (by rfl) ?_
 exact ⟨none, 0, none, 0, none, 0, none, 0, none, 0, rfl, Kd.C_nil _ _, Nat.le_refl _, exch_zero _ none none none none 0 0 0 0, below8 HB.out GE7.out (.int .u64 0) (.int .i64 0) (.int .i64 0) (.slice none 0 0) (.slice none 0 0) (.slice none 0 0) (.int .i64 0) (.slice none 0 0)⟩
set_option maxHeartbeats 8000000 in
set_option maxRecDepth 100000 in
theorem draw_high (k : Nat) (x : S30) (A3 : Option Addr) (c3 : Nat) (A4 : Option Addr) (c4 : Nat) (A5 : Option Addr) (c5 : Nat) (A7 : Option Addr) (c7 : Nat) (a n : Int) (w : World) (hx : k30.K w x (wv x A3 c3 A4 c4 A5 c5 A7 c7).toList) (hc : wcheck k x = some 0) (ha : ¬ a < 1) (hb : x.f0.f1 < a) :
  Calls Try.prog 37 #[.agg (wv x A3 c3 A4 c4 A5 c5 A7 c7), .int .i64 a, .int .i64 n] w (DrawPost w [] z30 2) := by
 have hu30 := Try.underlying30
 have hu24 := Try.underlying24
 have HX := Aside0.mk (XF.of hx)
 have HC := Aside0.mk (show net_Check.f k x.f0.f0 x.f0.f1 x.f0.f2 x.f1 x.f2 x.f3 x.f4 x.f5 = some 0 from hc)
 have hr1 : decide (a < 1) = false := decide_eq_false ha
 have hr2 : decide (x.f0.f1 < a) = true := decide_eq_true hb
 clear hc hx
 go_enter Try.func37, Try.ntmps37
 go_wp2_with (first
   | ((with_reducible refine gate_dst (N := 3) rfl ?_); refine box_event ?hg (N := 3) ?hd (cs := wv x A3 c3 A4 c4 A5 c5 A7 c7) (t := 30) ?hr ?_; (case hd => rfl); (case hg => rfl); (case hr => first | (go_simp; done) | (go_simp; rfl)); intro g3 hg3 w3 hbox hb3; have Q3 := Aside0.mk hbox; have HB := Aside0.mk hb3; have GE3 := Aside0.mk (show w.heap.size ≤ g3 from Nat.le_of_eq hg3.symm); clear hg3 hbox hb3)
   | ((with_reducible refine gate_dst (N := 7) rfl ?_); refine box_event ?hg (N := 7) ?hd (cs := #[.int .u64 0, .int .i64 0, .int .i64 0, .slice none 0 0, .slice none 0 0, .slice none 0 0, .int .i64 0, .slice none 0 0]) (t := 30) ?hr ?_; (case hd => rfl); (case hg => rfl); (case hr => first | (go_simp; done) | (go_simp; rfl)); intro g7 hg7 w7 hbox hb7; have Q7 := Aside0.mk hbox; have NE := Aside0.mk (show g3 ≠ g7 from by rw [hg7]; exact Nat.ne_of_lt (blk_lt Q3.out)); have GE7 := Aside0.mk (show w.heap.size ≤ g7 from by rw [hg7]; exact HB.out.size); have Q3 := Aside0.mk (blk_below Q3.out hb7); have HB := Aside0.mk (HB.out.trans (hb7.mono HB.out.size)); clear hg7 hbox hb7; have hx0 : w7.cell? ⟨g3, 0, none⟩ = some (.int .u64 x.f0.f0) := (blk_cell Q3.out 0).trans rfl; have hx1 : w7.cell? ⟨g3, 1, none⟩ = some (.int .i64 x.f0.f1) := (blk_cell Q3.out 1).trans rfl; have hx2 : w7.cell? ⟨g3, 2, none⟩ = some (.int .i64 x.f0.f2) := (blk_cell Q3.out 2).trans rfl; have hx3 : w7.cell? ⟨g3, 3, none⟩ = some (.slice A3 x.f1.length c3) := (blk_cell Q3.out 3).trans rfl; have hx4 : w7.cell? ⟨g3, 4, none⟩ = some (.slice A4 x.f2.length c4) := (blk_cell Q3.out 4).trans rfl; have hx5 : w7.cell? ⟨g3, 5, none⟩ = some (.slice A5 x.f3.length c5) := (blk_cell Q3.out 5).trans rfl; have hx6 : w7.cell? ⟨g3, 6, none⟩ = some (.int .i64 x.f4) := (blk_cell Q3.out 6).trans rfl; have hx7 : w7.cell? ⟨g3, 7, none⟩ = some (.slice A7 x.f5.length c7) := (blk_cell Q3.out 7).trans rfl)
   | (go_at_call 11; refine (net_Check.calls k x.f0.f0 x.f0.f1 x.f0.f2 A3 c3 x.f1 A4 c4 x.f2 A5 c5 x.f3 x.f4 A7 c7 x.f5 0 w7 (Kd.F_now (HX.out.below HB.out).r3) HX.out.l3 (Kd.F_now (HX.out.below HB.out).r4) HX.out.l4 (Kd.F_now (HX.out.below HB.out).r5) HX.out.l5 (Kd.F_now (HX.out.below HB.out).r7) HX.out.l7 HC.out).mono ?_; rintro e wc ⟨rfl, hbc⟩; have Q3 := Aside0.mk (blk_below Q3.out hbc); have Q7 := Aside0.mk (blk_below Q7.out hbc); have HB := Aside0.mk (HB.out.trans (hbc.mono HB.out.size)); clear hbc; clear hx0 hx1 hx2 hx3 hx4 hx5 hx6 hx7; have hx0 : wc.cell? ⟨g3, 0, none⟩ = some (.int .u64 x.f0.f0) := (blk_cell Q3.out 0).trans rfl; have hx1 : wc.cell? ⟨g3, 1, none⟩ = some (.int .i64 x.f0.f1) := (blk_cell Q3.out 1).trans rfl; have hx2 : wc.cell? ⟨g3, 2, none⟩ = some (.int .i64 x.f0.f2) := (blk_cell Q3.out 2).trans rfl; have hx3 : wc.cell? ⟨g3, 3, none⟩ = some (.slice A3 x.f1.length c3) := (blk_cell Q3.out 3).trans rfl; have hx4 : wc.cell? ⟨g3, 4, none⟩ = some (.slice A4 x.f2.length c4) := (blk_cell Q3.out 4).trans rfl; have hx5 : wc.cell? ⟨g3, 5, none⟩ = some (.slice A5 x.f3.length c5) := (blk_cell Q3.out 5).trans rfl; have hx6 : wc.cell? ⟨g3, 6, none⟩ = some (.int .i64 x.f4) := (blk_cell Q3.out 6).trans rfl; have hx7 : wc.cell? ⟨g3, 7, none⟩ = some (.slice A7 x.f5.length c7) := (blk_cell Q3.out 7).trans rfl; have hz0 : wc.cell? ⟨g7, 0, none⟩ = some (.int .u64 0) := (blk_cell Q7.out 0).trans rfl; have hz1 : wc.cell? ⟨g7, 1, none⟩ = some (.int .i64 0) := (blk_cell Q7.out 1).trans rfl; have hz2 : wc.cell? ⟨g7, 2, none⟩ = some (.int .i64 0) := (blk_cell Q7.out 2).trans rfl; have hz3 : wc.cell? ⟨g7, 3, none⟩ = some (.slice none 0 0) := (blk_cell Q7.out 3).trans rfl; have hz4 : wc.cell? ⟨g7, 4, none⟩ = some (.slice none 0 0) := (blk_cell Q7.out 4).trans rfl; have hz5 : wc.cell? ⟨g7, 5, none⟩ = some (.slice none 0 0) := (blk_cell Q7.out 5).trans rfl; have hz6 : wc.cell? ⟨g7, 6, none⟩ = some (.int .i64 0) := (blk_cell Q7.out 6).trans rfl; have hz7 : wc.cell? ⟨g7, 7, none⟩ = some (.slice none 0 0) := (blk_cell Q7.out 7).trans rfl; have hf0 := blk_frozen Q7.out 0; have hf1 := blk_frozen Q7.out 1; have hf2 := blk_frozen Q7.out 2; have hf3 := blk_frozen Q7.out 3; have hf4 := blk_frozen Q7.out 4; have hf5 := blk_frozen Q7.out 5; have hf6 := blk_frozen Q7.out 6; have hf7 := blk_frozen Q7.out 7))
 rw [show ((((((((wc.setCell ⟨g7, 0, none⟩ (.int .u64 0)).setCell ⟨g7, 1, none⟩ (.int .i64 0)).setCell ⟨g7, 2, none⟩ (.int .i64 0)).setCell ⟨g7, 3, none⟩ (.slice none 0 0)).setCell ⟨g7, 4, none⟩ (.slice none 0 0)).setCell ⟨g7, 5, none⟩ (.slice none 0 0)).setCell ⟨g7, 6, none⟩ (.int .i64 0)).setCell ⟨g7, 7, none⟩ (.slice none 0 0)) = put8 wc g7 (.int .u64 0) (.int .i64 0) (.int .i64 0) (.slice none 0 0) (.slice none 0 0) (.slice none 0 0) (.int .i64 0) (.slice none 0 0) from rfl]
 refine bodyPost_ret (results_list (rs := [.tmp 6, .cell 7 30, .tmp 8]) rfl (by simp) (.tmp (.cell g7 30 #[.int .u64 0, .int .i64 0, .int .i64 0, .slice none 0 0, .slice none 0 0, .slice none 0 0, .int .i64 0, .slice none 0 0] (0, 0) _ rfl (blk8 Q7.out (.int .u64 0) (.int .i64 0) (.int .i64 0) (.slice none 0 0) (.slice none 0 0) (.slice none 0 0) (.int .i64 0) (.slice none 0 0)) Try.underlying30 rfl (by kernel_rfl) (.tmp .nil)))) (by rfl) ?_
 exact ⟨none, 0, none, 0, none, 0, none, 0, none, 0, rfl, Kd.C_nil _ _, Nat.le_refl _, exch_zero _ none none none none 0 0 0 0, below8 HB.out GE7.out (.int .u64 0) (.int .i64 0) (.int .i64 0) (.slice none 0 0) (.slice none 0 0) (.slice none 0 0) (.int .i64 0) (.slice none 0 0)⟩
set_option maxHeartbeats 8000000 in
set_option maxRecDepth 100000 in
theorem draw_no (k : Nat) (x : S30) (A3 : Option Addr) (c3 : Nat) (A4 : Option Addr) (c4 : Nat) (A5 : Option Addr) (c5 : Nat) (A7 : Option Addr) (c7 : Nat) (n : Int) (w : World) (hx : k30.K w x (wv x A3 c3 A4 c4 A5 c5 A7 c7).toList) (j : Nat) (hc : wcheck k x = some 0) (hN : 1 ≤ x.f0.f1) (hj : (j : Int) < x.f0.f1) (hnt : (x.f3.length : Int) = x.f0.f1) (hn3 : x.f0.f1 ≤ 1000) (r : Int) (hd : field_Draw.f k x.f0.f0 (x.f3.getD j []) n = some ([], [], r)) (hr : r ≠ 0) :
  Calls Try.prog 37 #[.agg (wv x A3 c3 A4 c4 A5 c5 A7 c7), .int .i64 ((j : Int) + 1), .int .i64 n] w (DrawPost w [] z30 r) := by
 have hu30 := Try.underlying30
 have hu24 := Try.underlying24
 have HX := Aside0.mk (XF.of hx)
 have hr3 : (r != 0) = true := by simp [hr]
 have hr4 : (r == 0) = false := by simp [hr]
 clear hr
 have HC := Aside0.mk (show net_Check.f k x.f0.f0 x.f0.f1 x.f0.f2 x.f1 x.f2 x.f3 x.f4 x.f5 = some 0 from hc)
 have HN := Aside0.mk hN
 have HJ := Aside0.mk hj
 have HNT := Aside0.mk hnt
 have HN3 := Aside0.mk hn3
 obtain ⟨dd, hdd⟩ : ∃ d, d = x.f3.getD j [] := ⟨_, rfl⟩
 rw [← hdd] at hd
 have HDD := Aside0.mk hdd
 clear hdd
 have HD := Aside0.mk hd
 have hr1 : decide ((j : Int) + 1 < 1) = false := decide_eq_false (by omega)
 have hr2 : decide (x.f0.f1 < (j : Int) + 1) = false := decide_eq_false (by omega)
 have hw1 : wrap64 ((j : Int) + 1 - 1) = (j : Int) := by unfold wrap64; omega
 have hw2 : wrap64 (j : Int) = (j : Int) := by unfold wrap64; omega
 have p1 : (0 : Int) ≤ (j : Int) := by omega
 have q1 : (j : Int) < (x.f3.length : Int) := by omega
 have q2 : j < x.f3.length := by omega
 replace p1 := eq_true p1
 replace q1 := eq_true q1
 replace q2 := eq_true q2
 clear hN hj hnt hn3 hd hc hx
 go_enter Try.func37, Try.ntmps37
 go_upto_region 6 with (first
   | ((with_reducible refine gate_dst (N := 3) rfl ?_); refine box_event ?hg (N := 3) ?hd (cs := wv x A3 c3 A4 c4 A5 c5 A7 c7) (t := 30) ?hr ?_; (case hd => rfl); (case hg => rfl); (case hr => first | (go_simp; done) | (go_simp; rfl)); intro g3 hg3 w3 hbox hb3; have Q3 := Aside0.mk hbox; have HB := Aside0.mk hb3; have GE3 := Aside0.mk (show w.heap.size ≤ g3 from Nat.le_of_eq hg3.symm); clear hg3 hbox hb3)
   | ((with_reducible refine gate_dst (N := 7) rfl ?_); refine box_event ?hg (N := 7) ?hd (cs := #[.int .u64 0, .int .i64 0, .int .i64 0, .slice none 0 0, .slice none 0 0, .slice none 0 0, .int .i64 0, .slice none 0 0]) (t := 30) ?hr ?_; (case hd => rfl); (case hg => rfl); (case hr => first | (go_simp; done) | (go_simp; rfl)); intro g7 hg7 w7 hbox hb7; have Q7 := Aside0.mk hbox; have NE := Aside0.mk (show g3 ≠ g7 from by rw [hg7]; exact Nat.ne_of_lt (blk_lt Q3.out)); have GE7 := Aside0.mk (show w.heap.size ≤ g7 from by rw [hg7]; exact HB.out.size); have Q3 := Aside0.mk (blk_below Q3.out hb7); have HB := Aside0.mk (HB.out.trans (hb7.mono HB.out.size)); clear hg7 hbox hb7; have hx0 : w7.cell? ⟨g3, 0, none⟩ = some (.int .u64 x.f0.f0) := (blk_cell Q3.out 0).trans rfl; have hx1 : w7.cell? ⟨g3, 1, none⟩ = some (.int .i64 x.f0.f1) := (blk_cell Q3.out 1).trans rfl; have hx2 : w7.cell? ⟨g3, 2, none⟩ = some (.int .i64 x.f0.f2) := (blk_cell Q3.out 2).trans rfl; have hx3 : w7.cell? ⟨g3, 3, none⟩ = some (.slice A3 x.f1.length c3) := (blk_cell Q3.out 3).trans rfl; have hx4 : w7.cell? ⟨g3, 4, none⟩ = some (.slice A4 x.f2.length c4) := (blk_cell Q3.out 4).trans rfl; have hx5 : w7.cell? ⟨g3, 5, none⟩ = some (.slice A5 x.f3.length c5) := (blk_cell Q3.out 5).trans rfl; have hx6 : w7.cell? ⟨g3, 6, none⟩ = some (.int .i64 x.f4) := (blk_cell Q3.out 6).trans rfl; have hx7 : w7.cell? ⟨g3, 7, none⟩ = some (.slice A7 x.f5.length c7) := (blk_cell Q3.out 7).trans rfl)
   | (go_at_call 11; refine (net_Check.calls k x.f0.f0 x.f0.f1 x.f0.f2 A3 c3 x.f1 A4 c4 x.f2 A5 c5 x.f3 x.f4 A7 c7 x.f5 0 w7 (Kd.F_now (HX.out.below HB.out).r3) HX.out.l3 (Kd.F_now (HX.out.below HB.out).r4) HX.out.l4 (Kd.F_now (HX.out.below HB.out).r5) HX.out.l5 (Kd.F_now (HX.out.below HB.out).r7) HX.out.l7 HC.out).mono ?_; rintro e wc ⟨rfl, hbc⟩; have Q3 := Aside0.mk (blk_below Q3.out hbc); have Q7 := Aside0.mk (blk_below Q7.out hbc); have HB := Aside0.mk (HB.out.trans (hbc.mono HB.out.size)); clear hbc; clear hx0 hx1 hx2 hx3 hx4 hx5 hx6 hx7; have hx0 : wc.cell? ⟨g3, 0, none⟩ = some (.int .u64 x.f0.f0) := (blk_cell Q3.out 0).trans rfl; have hx1 : wc.cell? ⟨g3, 1, none⟩ = some (.int .i64 x.f0.f1) := (blk_cell Q3.out 1).trans rfl; have hx2 : wc.cell? ⟨g3, 2, none⟩ = some (.int .i64 x.f0.f2) := (blk_cell Q3.out 2).trans rfl; have hx3 : wc.cell? ⟨g3, 3, none⟩ = some (.slice A3 x.f1.length c3) := (blk_cell Q3.out 3).trans rfl; have hx4 : wc.cell? ⟨g3, 4, none⟩ = some (.slice A4 x.f2.length c4) := (blk_cell Q3.out 4).trans rfl; have hx5 : wc.cell? ⟨g3, 5, none⟩ = some (.slice A5 x.f3.length c5) := (blk_cell Q3.out 5).trans rfl; have hx6 : wc.cell? ⟨g3, 6, none⟩ = some (.int .i64 x.f4) := (blk_cell Q3.out 6).trans rfl; have hx7 : wc.cell? ⟨g3, 7, none⟩ = some (.slice A7 x.f5.length c7) := (blk_cell Q3.out 7).trans rfl; have hz0 : wc.cell? ⟨g7, 0, none⟩ = some (.int .u64 0) := (blk_cell Q7.out 0).trans rfl; have hz1 : wc.cell? ⟨g7, 1, none⟩ = some (.int .i64 0) := (blk_cell Q7.out 1).trans rfl; have hz2 : wc.cell? ⟨g7, 2, none⟩ = some (.int .i64 0) := (blk_cell Q7.out 2).trans rfl; have hz3 : wc.cell? ⟨g7, 3, none⟩ = some (.slice none 0 0) := (blk_cell Q7.out 3).trans rfl; have hz4 : wc.cell? ⟨g7, 4, none⟩ = some (.slice none 0 0) := (blk_cell Q7.out 4).trans rfl; have hz5 : wc.cell? ⟨g7, 5, none⟩ = some (.slice none 0 0) := (blk_cell Q7.out 5).trans rfl; have hz6 : wc.cell? ⟨g7, 6, none⟩ = some (.int .i64 0) := (blk_cell Q7.out 6).trans rfl; have hz7 : wc.cell? ⟨g7, 7, none⟩ = some (.slice none 0 0) := (blk_cell Q7.out 7).trans rfl; have hf0 := blk_frozen Q7.out 0; have hf1 := blk_frozen Q7.out 1; have hf2 := blk_frozen Q7.out 2; have hf3 := blk_frozen Q7.out 3; have hf4 := blk_frozen Q7.out 4; have hf5 := blk_frozen Q7.out 5; have hf6 := blk_frozen Q7.out 6; have hf7 := blk_frozen Q7.out 7))
 clear hx0 hx1 hx2 hx3 hx4 hx5 hx6 hx7
 clear hz0 hf0 hz1 hf1 hz2 hf2 hz3 hf3 hz4 hf4 hz5 hf5 hz6 hf6 hz7 hf7
 obtain ⟨ad, Ai, ci, e5, hcell, hli, hFi⟩ := F_row_at (HX.out.below HB.out).r5 (show j < x.f3.length from by have := HJ.out; have := HNT.out; omega)
 subst e5
 rw [← HDD.out] at hcell hli hFi
 have T3 := Aside0.mk (show wc.drew.cell? (ad.add j) = some (.slice Ai dd.length ci) from hcell)
 have HLI := Aside0.mk hli
 have HFI := Aside0.mk (Kd.F_drew hFi)
 clear hcell hli hFi
 have Q3 := Aside0.mk (blk_drew Q3.out)
 have Q7 := Aside0.mk (blk_drew Q7.out)
 have HB := Aside0.mk (below_drew1 HB.out)
 have HW := Aside0.mk (Below.refl wc.drew.heap.size wc.drew)
 refine start_ (n := 18) (S := fun w' => w'.cell? ⟨g3, 0, none⟩ = some (.int .u64 x.f0.f0) ∧ w'.cell? ⟨g3, 5, none⟩ = some (.slice (some ad) x.f3.length c5) ∧ w'.cell? (ad.add j) = some (.slice Ai dd.length ci)) (ds := []) (ba_ 18 0) (by kernel_rfl) rfl rfl ⟨below_cell HW.out ((blk_cell Q3.out 0).trans rfl), below_cell HW.out ((blk_cell Q3.out 5).trans rfl), below_cell HW.out T3.out⟩ (fun hHeld => ?_)
 generalize wc.drew = wa at Q3 Q7 HB HW T3 HFI hHeld ⊢
 refine with_tabW netDraw.tab6 netDraw.bits6 (fun HT_ HW_ => ?_)
 refine pure_ (i := 0) (N := some 30) (v := ?_) (a' := ?_) (ba_ 18 1) rfl rfl (any_of HT_.out (by kernel_rfl)) (fun _ _ _ h => h) (Or.inl ⟨by rfl, ?_⟩) ?_ ?_
 rotate_left
 ·intro w'
  go_simp
  with_reducible rfl
 rotate_left
 ·simp only [Act.put, List.setIfInBounds_toArray, List.set_cons_zero, List.set_cons_succ, i64_w, i32_w]
  rfl
 refine pure_ (i := 1) (N := some 31) (v := ?_) (a' := ?_) (ba_ 18 3) rfl rfl (any_of HT_.out (by kernel_rfl)) (fun _ _ _ h => h) (Or.inl ⟨by rfl, ?_⟩) ?_ ?_
 rotate_left
 ·intro w'
  go_simp
  with_reducible rfl
 rotate_left
 ·simp only [Act.put, List.setIfInBounds_toArray, List.set_cons_zero, List.set_cons_succ, i64_w, i32_w]
  rfl
 refine pure_ (i := 3) (N := some 33) (v := ?_) (a' := ?_) (ba_ 18 11) rfl rfl (any_of HT_.out (by kernel_rfl)) (fun _ _ _ h => h) (Or.inl ⟨by rfl, ?_⟩) ?_ ?_
 rotate_left
 ·intro w'
  go_simp
  with_reducible rfl
 rotate_left
 ·simp only [Act.put, List.setIfInBounds_toArray, List.set_cons_zero, List.set_cons_succ, i64_w, i32_w]
  rfl
 refine pure_ (i := 5) (N := some 35) (v := ?_) (a' := ?_) (ba_ 18 43) rfl rfl (any_of HT_.out (by kernel_rfl)) (fun _ _ _ h => h) (Or.inl ⟨by rfl, ?_⟩) ?_ ?_
 rotate_left
 ·intro w'
  go_simp
  with_reducible rfl
 rotate_left
 ·simp only [Act.put, List.setIfInBounds_toArray, List.set_cons_zero, List.set_cons_succ, i64_w, i32_w]
  rfl
 refine take_ (i := 2) (N := some 32) (v := ?_) (a' := ?_) (ba_ 18 47) rfl rfl (take_ofW HT_.out HW_.out (by kernel_rfl)) (fun _ _ _ h => h) (Or.inl ⟨by rfl, ?_⟩) hHeld ?_ ?_
 rotate_left
 ·rintro w' ⟨s0, s1, s2⟩
  go_simp
  with_reducible rfl
 rotate_left
 ·simp only [Act.put, List.setIfInBounds_toArray, List.set_cons_zero, List.set_cons_succ, i64_w, i32_w]
  rfl
 refine take_ (i := 4) (N := some 34) (v := ?_) (a' := ?_) (ba_ 18 63) rfl rfl (take_ofW HT_.out HW_.out (by kernel_rfl)) (fun _ _ _ h => h) (Or.inl ⟨by rfl, ?_⟩) hHeld ?_ ?_
 rotate_left
 ·rintro w' ⟨s0, s1, s2⟩
  go_simp
  with_reducible rfl
 rotate_left
 ·simp only [Act.put, List.setIfInBounds_toArray, List.set_cons_zero, List.set_cons_succ, i64_w, i32_w]
  rfl
 refine pure_ (i := 6) (N := some 36) (v := ?_) (a' := ?_) (ba_ 18 127) rfl rfl (any_of HT_.out (by kernel_rfl)) (fun _ _ _ h => h) (Or.inl ⟨by rfl, ?_⟩) ?_ ?_
 rotate_left
 ·intro w'
  go_simp
  with_reducible rfl
 rotate_left
 ·simp only [Act.put, List.setIfInBounds_toArray, List.set_cons_zero, List.set_cons_succ, i64_w, i32_w]
  rfl
 refine pure_ (i := 7) (N := some 37) (v := ?_) (a' := ?_) (ba_ 18 255) rfl rfl (any_of HT_.out (by kernel_rfl)) (fun _ _ _ h => h) (Or.inl ⟨by rfl, ?_⟩) ?_ ?_
 rotate_left
 ·intro w'
  go_simp
  with_reducible rfl
 rotate_left
 ·simp only [Act.put, List.setIfInBounds_toArray, List.set_cons_zero, List.set_cons_succ, i64_w, i32_w]
  rfl
 refine take_ (i := 8) (N := some 38) (v := ?_) (a' := ?_) (ba_ 18 511) rfl rfl (take_ofW HT_.out HW_.out (by kernel_rfl)) (fun _ _ _ h => h) (Or.inl ⟨by rfl, ?_⟩) hHeld ?_ ?_
 rotate_left
 ·rintro w' ⟨s0, s1, s2⟩
  go_simp
  with_reducible rfl
 rotate_left
 ·simp only [Act.put, List.setIfInBounds_toArray, List.set_cons_zero, List.set_cons_succ, i64_w, i32_w]
  rfl
 refine pure_ (i := 9) (N := some 39) (v := ?_) (a' := ?_) (ba_ 18 1023) rfl rfl (any_of HT_.out (by kernel_rfl)) (fun _ _ _ h => h) (Or.inl ⟨by rfl, ?_⟩) ?_ ?_
 rotate_left
 ·intro w'
  go_simp
  with_reducible rfl
 rotate_left
 ·simp only [Act.put, List.setIfInBounds_toArray, List.set_cons_zero, List.set_cons_succ, i64_w, i32_w]
  rfl
 refine one_ (i := 10) (N := some 40) (ba_ 18 2047) rfl rfl (one_of HT_.out (by kernel_rfl)) (by decide) (fun K hK => ?_)
 refine goes_ Try.func56 (by kernel_rfl) rfl #[.int .u64 x.f0.f0, .slice Ai dd.length ci, .int .i64 n] (by rfl) rfl rfl (by (try simp only [List.map_toArray, List.map_cons, List.map_nil]); first | done | rfl | (simp only [List.length_drop, List.length_take]; rfl)) ?_
 refine (field_Draw.calls k x.f0.f0 Ai ci dd n [] [] r wa (Kd.F_now HFI.out) HLI.out HD.out).mono ?_
 rintro e wd ⟨v0, v1, rfl, hR0, hR1, hbd⟩
 refine ⟨_, rfl, ?_⟩
 obtain ⟨G, d, rfl⟩ := Kd.R_slice hR0
 obtain ⟨R, rc, rfl⟩ := Kd.R_slice hR1
 have HG := Aside0.mk hR0
 have HR := Aside0.mk hR1
 have HW := Aside0.mk hbd
 clear hR0 hR1 hbd
 refine hK.out _ _ ⟨below_cell HW.out ((blk_cell Q3.out 0).trans rfl), below_cell HW.out ((blk_cell Q3.out 5).trans rfl), below_cell HW.out T3.out⟩ (fun hHeld => ?_)
 clear hK K
 refine norm_ (a' := ?_) ?_ ?_
 rotate_left
 ·show Act.put _ (some 40) _ = _
  simp only [Act.put, List.setIfInBounds_toArray, List.set_cons_zero, List.set_cons_succ, i64_w, i32_w]
  rfl
 refine pure_ (i := 11) (N := some 29) (v := ?_) (a' := ?_) (ba_ 18 4095) rfl rfl (any_of HT_.out (by kernel_rfl)) (fun _ _ _ h => h) (Or.inl ⟨by rfl, ?_⟩) ?_ ?_
 rotate_left
 ·intro w'
  go_simp
  with_reducible rfl
 rotate_left
 ·simp only [Act.put, List.setIfInBounds_toArray, List.set_cons_zero, List.set_cons_succ, i64_w, i32_w]
  rfl
 refine pure_ (i := 12) (N := some 41) (v := ?_) (a' := ?_) (ba_ 18 8191) rfl rfl (any_of HT_.out (by kernel_rfl)) (fun _ _ _ h => h) (Or.inl ⟨by rfl, ?_⟩) ?_ ?_
 rotate_left
 ·intro w'
  go_simp
  with_reducible rfl
 rotate_left
 ·simp only [Act.put, List.setIfInBounds_toArray, List.set_cons_zero, List.set_cons_succ, i64_w, i32_w]
  rfl
 refine pure_ (i := 13) (N := some 42) (v := ?_) (a' := ?_) (ba_ 18 16383) rfl rfl (any_of HT_.out (by kernel_rfl)) (fun _ _ _ h => h) (Or.inl ⟨by rfl, ?_⟩) ?_ ?_
 rotate_left
 ·intro w'
  go_simp
  with_reducible rfl
 rotate_left
 ·simp only [Act.put, List.setIfInBounds_toArray, List.set_cons_zero, List.set_cons_succ, i64_w, i32_w]
  rfl
 refine pure_ (i := 14) (N := some 43) (v := ?_) (a' := ?_) (ba_ 18 32767) rfl rfl (any_of HT_.out (by kernel_rfl)) (fun _ _ _ h => h) (Or.inl ⟨by rfl, ?_⟩) ?_ ?_
 rotate_left
 ·intro w'
  go_simp
  with_reducible rfl
 rotate_left
 ·simp only [Act.put, List.setIfInBounds_toArray, List.set_cons_zero, List.set_cons_succ, i64_w, i32_w]
  rfl
 refine pure_ (i := 15) (N := some 10) (v := ?_) (a' := ?_) (ba_ 18 65535) rfl rfl (any_of HT_.out (by kernel_rfl)) (fun _ _ _ h => h) (Or.inl ⟨by rfl, ?_⟩) ?_ ?_
 rotate_left
 ·intro w'
  go_simp
  with_reducible rfl
 rotate_left
 ·simp only [Act.put, List.setIfInBounds_toArray, List.set_cons_zero, List.set_cons_succ, i64_w, i32_w]
  rfl
 refine pure_ (i := 16) (N := some 11) (v := ?_) (a' := ?_) (ba_ 18 131071) rfl rfl (any_of HT_.out (by kernel_rfl)) (fun _ _ _ h => h) (Or.inl ⟨by rfl, ?_⟩) ?_ ?_
 rotate_left
 ·intro w'
  go_simp
  with_reducible rfl
 rotate_left
 ·simp only [Act.put, List.setIfInBounds_toArray, List.set_cons_zero, List.set_cons_succ, i64_w, i32_w]
  rfl
 refine pure_ (i := 17) (N := some 12) (v := ?_) (a' := ?_) (ba_ 18 262143) rfl rfl (any_of HT_.out (by kernel_rfl)) (fun _ _ _ h => h) (Or.inl ⟨by rfl, ?_⟩) ?_ ?_
 rotate_left
 ·intro w'
  go_simp
  with_reducible rfl
 rotate_left
 ·simp only [Act.put, List.setIfInBounds_toArray, List.set_cons_zero, List.set_cons_succ, i64_w, i32_w]
  rfl
 refine done_ (done_of HT_.out (by kernel_rfl)) ?_
 clear hHeld T3
 have Q7 := Aside0.mk (blk_below Q7.out HW.out)
 have HB := Aside0.mk (HB.out.trans (HW.out.mono HB.out.size))
 clear HW Q3 HG HR HFI
 have hz0 : wd.cell? ⟨g7, 0, none⟩ = some (.int .u64 0) := (blk_cell Q7.out 0).trans rfl
 have hz1 : wd.cell? ⟨g7, 1, none⟩ = some (.int .i64 0) := (blk_cell Q7.out 1).trans rfl
 have hz2 : wd.cell? ⟨g7, 2, none⟩ = some (.int .i64 0) := (blk_cell Q7.out 2).trans rfl
 have hz3 : wd.cell? ⟨g7, 3, none⟩ = some (.slice none 0 0) := (blk_cell Q7.out 3).trans rfl
 have hz4 : wd.cell? ⟨g7, 4, none⟩ = some (.slice none 0 0) := (blk_cell Q7.out 4).trans rfl
 have hz5 : wd.cell? ⟨g7, 5, none⟩ = some (.slice none 0 0) := (blk_cell Q7.out 5).trans rfl
 have hz6 : wd.cell? ⟨g7, 6, none⟩ = some (.int .i64 0) := (blk_cell Q7.out 6).trans rfl
 have hz7 : wd.cell? ⟨g7, 7, none⟩ = some (.slice none 0 0) := (blk_cell Q7.out 7).trans rfl
 have hf0 := blk_frozen Q7.out 0
 have hf1 := blk_frozen Q7.out 1
 have hf2 := blk_frozen Q7.out 2
 have hf3 := blk_frozen Q7.out 3
 have hf4 := blk_frozen Q7.out 4
 have hf5 := blk_frozen Q7.out 5
 have hf6 := blk_frozen Q7.out 6
 have hf7 := blk_frozen Q7.out 7
 go_wp2
 rw [show ((((((((wd.setCell ⟨g7, 0, none⟩ (.int .u64 0)).setCell ⟨g7, 1, none⟩ (.int .i64 0)).setCell ⟨g7, 2, none⟩ (.int .i64 0)).setCell ⟨g7, 3, none⟩ (.slice none 0 0)).setCell ⟨g7, 4, none⟩ (.slice none 0 0)).setCell ⟨g7, 5, none⟩ (.slice none 0 0)).setCell ⟨g7, 6, none⟩ (.int .i64 0)).setCell ⟨g7, 7, none⟩ (.slice none 0 0)) = put8 wd g7 (.int .u64 0) (.int .i64 0) (.int .i64 0) (.slice none 0 0) (.slice none 0 0) (.slice none 0 0) (.int .i64 0) (.slice none 0 0) from rfl]
 refine bodyPost_ret (results_list (rs := [.tmp 6, .cell 7 30, .tmp 8]) rfl (by simp) (.tmp (.cell g7 30 #[.int .u64 0, .int .i64 0, .int .i64 0, .slice none 0 0, .slice none 0 0, .slice none 0 0, .int .i64 0, .slice none 0 0] (0, 0) _ rfl (blk8 Q7.out (.int .u64 0) (.int .i64 0) (.int .i64 0) (.slice none 0 0) (.slice none 0 0) (.slice none 0 0) (.int .i64 0) (.slice none 0 0)) Try.underlying30 rfl (by kernel_rfl) (.tmp .nil)))) (by rfl) ?_
 exact ⟨none, 0, none, 0, none, 0, none, 0, none, 0, rfl, Kd.C_nil _ _, Nat.le_refl _, exch_zero _ none none none none 0 0 0 0, below8 HB.out GE7.out (.int .u64 0) (.int .i64 0) (.int .i64 0) (.slice none 0 0) (.slice none 0 0) (.slice none 0 0) (.int .i64 0) (.slice none 0 0)⟩
set_option maxHeartbeats 8000000 in
set_option maxRecDepth 100000 in
theorem draw_ok (k : Nat) (x : S30) (A3 : Option Addr) (c3 : Nat) (A4 : Option Addr) (c4 : Nat) (A5 : Option Addr) (c5 : Nat) (A7 : Option Addr) (c7 : Nat) (n : Int) (w : World) (hx : k30.K w x (wv x A3 c3 A4 c4 A5 c5 A7 c7).toList) (j : Nat) (hc : wcheck k x = some 0) (hN : 1 ≤ x.f0.f1) (hj : (j : Int) < x.f0.f1) (hnt : (x.f3.length : Int) = x.f0.f1) (hn3 : x.f0.f1 ≤ 1000) (l rest : List Int) (hd : field_Draw.f k x.f0.f0 (x.f3.getD j []) n = some (l, rest, 0)) (hcl : Small x.f1 x.f2 x.f3 x.f5) :
  Calls Try.prog 37 #[.agg (wv x A3 c3 A4 c4 A5 c5 A7 c7), .int .i64 ((j : Int) + 1), .int .i64 n] w (DrawPost w l (⟨x.f0, x.f1, x.f2, x.f3.set j rest, x.f4, x.f5⟩ : S30) 0) := by
 have hu30 := Try.underlying30
 have hu24 := Try.underlying24
 have HX := Aside0.mk (XF.of hx)
 have HCL := Aside0.mk hcl
 clear hcl
 have HC := Aside0.mk (show net_Check.f k x.f0.f0 x.f0.f1 x.f0.f2 x.f1 x.f2 x.f3 x.f4 x.f5 = some 0 from hc)
 have HN := Aside0.mk hN
 have HJ := Aside0.mk hj
 have HNT := Aside0.mk hnt
 have HN3 := Aside0.mk hn3
 obtain ⟨dd, hdd⟩ : ∃ d, d = x.f3.getD j [] := ⟨_, rfl⟩
 rw [← hdd] at hd
 have HDD := Aside0.mk hdd
 clear hdd
 have HD := Aside0.mk hd
 have hr1 : decide ((j : Int) + 1 < 1) = false := decide_eq_false (by omega)
 have hr2 : decide (x.f0.f1 < (j : Int) + 1) = false := decide_eq_false (by omega)
 have hw1 : wrap64 ((j : Int) + 1 - 1) = (j : Int) := by unfold wrap64; omega
 have hw2 : wrap64 (j : Int) = (j : Int) := by unfold wrap64; omega
 have p1 : (0 : Int) ≤ (j : Int) := by omega
 have q1 : (j : Int) < (x.f3.length : Int) := by omega
 have q2 : j < x.f3.length := by omega
 replace p1 := eq_true p1
 replace q1 := eq_true q1
 replace q2 := eq_true q2
 clear hN hj hnt hn3 hd hc hx
 go_enter Try.func37, Try.ntmps37
 go_upto_region 6 with (first
   | ((with_reducible refine gate_dst (N := 3) rfl ?_); refine box_event ?hg (N := 3) ?hd (cs := wv x A3 c3 A4 c4 A5 c5 A7 c7) (t := 30) ?hr ?_; (case hd => rfl); (case hg => rfl); (case hr => first | (go_simp; done) | (go_simp; rfl)); intro g3 hg3 w3 hbox hb3; have Q3 := Aside0.mk hbox; have HB := Aside0.mk hb3; have GE3 := Aside0.mk (show w.heap.size ≤ g3 from Nat.le_of_eq hg3.symm); clear hg3 hbox hb3)
   | ((with_reducible refine gate_dst (N := 7) rfl ?_); refine box_event ?hg (N := 7) ?hd (cs := #[.int .u64 0, .int .i64 0, .int .i64 0, .slice none 0 0, .slice none 0 0, .slice none 0 0, .int .i64 0, .slice none 0 0]) (t := 30) ?hr ?_; (case hd => rfl); (case hg => rfl); (case hr => first | (go_simp; done) | (go_simp; rfl)); intro g7 hg7 w7 hbox hb7; have Q7 := Aside0.mk hbox; have NE := Aside0.mk (show g3 ≠ g7 from by rw [hg7]; exact Nat.ne_of_lt (blk_lt Q3.out)); have GE7 := Aside0.mk (show w.heap.size ≤ g7 from by rw [hg7]; exact HB.out.size); have Q3 := Aside0.mk (blk_below Q3.out hb7); have HB := Aside0.mk (HB.out.trans (hb7.mono HB.out.size)); clear hg7 hbox hb7; have hx0 : w7.cell? ⟨g3, 0, none⟩ = some (.int .u64 x.f0.f0) := (blk_cell Q3.out 0).trans rfl; have hx1 : w7.cell? ⟨g3, 1, none⟩ = some (.int .i64 x.f0.f1) := (blk_cell Q3.out 1).trans rfl; have hx2 : w7.cell? ⟨g3, 2, none⟩ = some (.int .i64 x.f0.f2) := (blk_cell Q3.out 2).trans rfl; have hx3 : w7.cell? ⟨g3, 3, none⟩ = some (.slice A3 x.f1.length c3) := (blk_cell Q3.out 3).trans rfl; have hx4 : w7.cell? ⟨g3, 4, none⟩ = some (.slice A4 x.f2.length c4) := (blk_cell Q3.out 4).trans rfl; have hx5 : w7.cell? ⟨g3, 5, none⟩ = some (.slice A5 x.f3.length c5) := (blk_cell Q3.out 5).trans rfl; have hx6 : w7.cell? ⟨g3, 6, none⟩ = some (.int .i64 x.f4) := (blk_cell Q3.out 6).trans rfl; have hx7 : w7.cell? ⟨g3, 7, none⟩ = some (.slice A7 x.f5.length c7) := (blk_cell Q3.out 7).trans rfl)
   | (go_at_call 11; refine (net_Check.calls k x.f0.f0 x.f0.f1 x.f0.f2 A3 c3 x.f1 A4 c4 x.f2 A5 c5 x.f3 x.f4 A7 c7 x.f5 0 w7 (Kd.F_now (HX.out.below HB.out).r3) HX.out.l3 (Kd.F_now (HX.out.below HB.out).r4) HX.out.l4 (Kd.F_now (HX.out.below HB.out).r5) HX.out.l5 (Kd.F_now (HX.out.below HB.out).r7) HX.out.l7 HC.out).mono ?_; rintro e wc ⟨rfl, hbc⟩; have Q3 := Aside0.mk (blk_below Q3.out hbc); have Q7 := Aside0.mk (blk_below Q7.out hbc); have HB := Aside0.mk (HB.out.trans (hbc.mono HB.out.size)); clear hbc; clear hx0 hx1 hx2 hx3 hx4 hx5 hx6 hx7; have hx0 : wc.cell? ⟨g3, 0, none⟩ = some (.int .u64 x.f0.f0) := (blk_cell Q3.out 0).trans rfl; have hx1 : wc.cell? ⟨g3, 1, none⟩ = some (.int .i64 x.f0.f1) := (blk_cell Q3.out 1).trans rfl; have hx2 : wc.cell? ⟨g3, 2, none⟩ = some (.int .i64 x.f0.f2) := (blk_cell Q3.out 2).trans rfl; have hx3 : wc.cell? ⟨g3, 3, none⟩ = some (.slice A3 x.f1.length c3) := (blk_cell Q3.out 3).trans rfl; have hx4 : wc.cell? ⟨g3, 4, none⟩ = some (.slice A4 x.f2.length c4) := (blk_cell Q3.out 4).trans rfl; have hx5 : wc.cell? ⟨g3, 5, none⟩ = some (.slice A5 x.f3.length c5) := (blk_cell Q3.out 5).trans rfl; have hx6 : wc.cell? ⟨g3, 6, none⟩ = some (.int .i64 x.f4) := (blk_cell Q3.out 6).trans rfl; have hx7 : wc.cell? ⟨g3, 7, none⟩ = some (.slice A7 x.f5.length c7) := (blk_cell Q3.out 7).trans rfl; have hz0 : wc.cell? ⟨g7, 0, none⟩ = some (.int .u64 0) := (blk_cell Q7.out 0).trans rfl; have hz1 : wc.cell? ⟨g7, 1, none⟩ = some (.int .i64 0) := (blk_cell Q7.out 1).trans rfl; have hz2 : wc.cell? ⟨g7, 2, none⟩ = some (.int .i64 0) := (blk_cell Q7.out 2).trans rfl; have hz3 : wc.cell? ⟨g7, 3, none⟩ = some (.slice none 0 0) := (blk_cell Q7.out 3).trans rfl; have hz4 : wc.cell? ⟨g7, 4, none⟩ = some (.slice none 0 0) := (blk_cell Q7.out 4).trans rfl; have hz5 : wc.cell? ⟨g7, 5, none⟩ = some (.slice none 0 0) := (blk_cell Q7.out 5).trans rfl; have hz6 : wc.cell? ⟨g7, 6, none⟩ = some (.int .i64 0) := (blk_cell Q7.out 6).trans rfl; have hz7 : wc.cell? ⟨g7, 7, none⟩ = some (.slice none 0 0) := (blk_cell Q7.out 7).trans rfl; have hf0 := blk_frozen Q7.out 0; have hf1 := blk_frozen Q7.out 1; have hf2 := blk_frozen Q7.out 2; have hf3 := blk_frozen Q7.out 3; have hf4 := blk_frozen Q7.out 4; have hf5 := blk_frozen Q7.out 5; have hf6 := blk_frozen Q7.out 6; have hf7 := blk_frozen Q7.out 7))
 clear hx0 hx1 hx2 hx3 hx4 hx5 hx6 hx7
 clear hz0 hf0 hz1 hf1 hz2 hf2 hz3 hf3 hz4 hf4 hz5 hf5 hz6 hf6 hz7 hf7
 obtain ⟨ad, Ai, ci, e5, hcell, hli, hFi⟩ := F_row_at (HX.out.below HB.out).r5 (show j < x.f3.length from by have := HJ.out; have := HNT.out; omega)
 subst e5
 rw [← HDD.out] at hcell hli hFi
 have T3 := Aside0.mk (show wc.drew.cell? (ad.add j) = some (.slice Ai dd.length ci) from hcell)
 have HLI := Aside0.mk hli
 have HFI := Aside0.mk (Kd.F_drew hFi)
 clear hcell hli hFi
 have Q3 := Aside0.mk (blk_drew Q3.out)
 have Q7 := Aside0.mk (blk_drew Q7.out)
 have HB := Aside0.mk (below_drew1 HB.out)
 have HW := Aside0.mk (Below.refl wc.drew.heap.size wc.drew)
 refine start_ (n := 18) (S := fun w' => w'.cell? ⟨g3, 0, none⟩ = some (.int .u64 x.f0.f0) ∧ w'.cell? ⟨g3, 5, none⟩ = some (.slice (some ad) x.f3.length c5) ∧ w'.cell? (ad.add j) = some (.slice Ai dd.length ci)) (ds := []) (ba_ 18 0) (by kernel_rfl) rfl rfl ⟨below_cell HW.out ((blk_cell Q3.out 0).trans rfl), below_cell HW.out ((blk_cell Q3.out 5).trans rfl), below_cell HW.out T3.out⟩ (fun hHeld => ?_)
 generalize wc.drew = wa at Q3 Q7 HB HW T3 HFI hHeld ⊢
 refine with_tabW netDraw.tab6 netDraw.bits6 (fun HT_ HW_ => ?_)
 refine pure_ (i := 0) (N := some 30) (v := ?_) (a' := ?_) (ba_ 18 1) rfl rfl (any_of HT_.out (by kernel_rfl)) (fun _ _ _ h => h) (Or.inl ⟨by rfl, ?_⟩) ?_ ?_
 rotate_left
 ·intro w'
  go_simp
  with_reducible rfl
 rotate_left
 ·simp only [Act.put, List.setIfInBounds_toArray, List.set_cons_zero, List.set_cons_succ, i64_w, i32_w]
  rfl
 refine pure_ (i := 1) (N := some 31) (v := ?_) (a' := ?_) (ba_ 18 3) rfl rfl (any_of HT_.out (by kernel_rfl)) (fun _ _ _ h => h) (Or.inl ⟨by rfl, ?_⟩) ?_ ?_
 rotate_left
 ·intro w'
  go_simp
  with_reducible rfl
 rotate_left
 ·simp only [Act.put, List.setIfInBounds_toArray, List.set_cons_zero, List.set_cons_succ, i64_w, i32_w]
  rfl
 refine pure_ (i := 3) (N := some 33) (v := ?_) (a' := ?_) (ba_ 18 11) rfl rfl (any_of HT_.out (by kernel_rfl)) (fun _ _ _ h => h) (Or.inl ⟨by rfl, ?_⟩) ?_ ?_
 rotate_left
 ·intro w'
  go_simp
  with_reducible rfl
 rotate_left
 ·simp only [Act.put, List.setIfInBounds_toArray, List.set_cons_zero, List.set_cons_succ, i64_w, i32_w]
  rfl
 refine pure_ (i := 5) (N := some 35) (v := ?_) (a' := ?_) (ba_ 18 43) rfl rfl (any_of HT_.out (by kernel_rfl)) (fun _ _ _ h => h) (Or.inl ⟨by rfl, ?_⟩) ?_ ?_
 rotate_left
 ·intro w'
  go_simp
  with_reducible rfl
 rotate_left
 ·simp only [Act.put, List.setIfInBounds_toArray, List.set_cons_zero, List.set_cons_succ, i64_w, i32_w]
  rfl
 refine take_ (i := 2) (N := some 32) (v := ?_) (a' := ?_) (ba_ 18 47) rfl rfl (take_ofW HT_.out HW_.out (by kernel_rfl)) (fun _ _ _ h => h) (Or.inl ⟨by rfl, ?_⟩) hHeld ?_ ?_
 rotate_left
 ·rintro w' ⟨s0, s1, s2⟩
  go_simp
  with_reducible rfl
 rotate_left
 ·simp only [Act.put, List.setIfInBounds_toArray, List.set_cons_zero, List.set_cons_succ, i64_w, i32_w]
  rfl
 refine take_ (i := 4) (N := some 34) (v := ?_) (a' := ?_) (ba_ 18 63) rfl rfl (take_ofW HT_.out HW_.out (by kernel_rfl)) (fun _ _ _ h => h) (Or.inl ⟨by rfl, ?_⟩) hHeld ?_ ?_
 rotate_left
 ·rintro w' ⟨s0, s1, s2⟩
  go_simp
  with_reducible rfl
 rotate_left
 ·simp only [Act.put, List.setIfInBounds_toArray, List.set_cons_zero, List.set_cons_succ, i64_w, i32_w]
  rfl
 refine pure_ (i := 6) (N := some 36) (v := ?_) (a' := ?_) (ba_ 18 127) rfl rfl (any_of HT_.out (by kernel_rfl)) (fun _ _ _ h => h) (Or.inl ⟨by rfl, ?_⟩) ?_ ?_
 rotate_left
 ·intro w'
  go_simp
  with_reducible rfl
 rotate_left
 ·simp only [Act.put, List.setIfInBounds_toArray, List.set_cons_zero, List.set_cons_succ, i64_w, i32_w]
  rfl
 refine pure_ (i := 7) (N := some 37) (v := ?_) (a' := ?_) (ba_ 18 255) rfl rfl (any_of HT_.out (by kernel_rfl)) (fun _ _ _ h => h) (Or.inl ⟨by rfl, ?_⟩) ?_ ?_
 rotate_left
 ·intro w'
  go_simp
  with_reducible rfl
 rotate_left
 ·simp only [Act.put, List.setIfInBounds_toArray, List.set_cons_zero, List.set_cons_succ, i64_w, i32_w]
  rfl
 refine take_ (i := 8) (N := some 38) (v := ?_) (a' := ?_) (ba_ 18 511) rfl rfl (take_ofW HT_.out HW_.out (by kernel_rfl)) (fun _ _ _ h => h) (Or.inl ⟨by rfl, ?_⟩) hHeld ?_ ?_
 rotate_left
 ·rintro w' ⟨s0, s1, s2⟩
  go_simp
  with_reducible rfl
 rotate_left
 ·simp only [Act.put, List.setIfInBounds_toArray, List.set_cons_zero, List.set_cons_succ, i64_w, i32_w]
  rfl
 refine pure_ (i := 9) (N := some 39) (v := ?_) (a' := ?_) (ba_ 18 1023) rfl rfl (any_of HT_.out (by kernel_rfl)) (fun _ _ _ h => h) (Or.inl ⟨by rfl, ?_⟩) ?_ ?_
 rotate_left
 ·intro w'
  go_simp
  with_reducible rfl
 rotate_left
 ·simp only [Act.put, List.setIfInBounds_toArray, List.set_cons_zero, List.set_cons_succ, i64_w, i32_w]
  rfl
 refine one_ (i := 10) (N := some 40) (ba_ 18 2047) rfl rfl (one_of HT_.out (by kernel_rfl)) (by decide) (fun K hK => ?_)
 refine goes_ Try.func56 (by kernel_rfl) rfl #[.int .u64 x.f0.f0, .slice Ai dd.length ci, .int .i64 n] (by rfl) rfl rfl (by (try simp only [List.map_toArray, List.map_cons, List.map_nil]); first | done | rfl | (simp only [List.length_drop, List.length_take]; rfl)) ?_
 refine (field_Draw.calls k x.f0.f0 Ai ci dd n l rest 0 wa (Kd.F_now HFI.out) HLI.out HD.out).mono ?_
 rintro e wd ⟨v0, v1, rfl, hR0, hR1, hbd⟩
 refine ⟨_, rfl, ?_⟩
 obtain ⟨G, d, rfl⟩ := Kd.R_slice hR0
 obtain ⟨R, rc, rfl⟩ := Kd.R_slice hR1
 have HG := Aside0.mk hR0
 have HR := Aside0.mk hR1
 have HW := Aside0.mk hbd
 clear hR0 hR1 hbd
 refine hK.out _ _ ⟨below_cell HW.out ((blk_cell Q3.out 0).trans rfl), below_cell HW.out ((blk_cell Q3.out 5).trans rfl), below_cell HW.out T3.out⟩ (fun hHeld => ?_)
 clear hK K
 refine norm_ (a' := ?_) ?_ ?_
 rotate_left
 ·show Act.put _ (some 40) _ = _
  simp only [Act.put, List.setIfInBounds_toArray, List.set_cons_zero, List.set_cons_succ, i64_w, i32_w]
  rfl
 refine pure_ (i := 11) (N := some 29) (v := ?_) (a' := ?_) (ba_ 18 4095) rfl rfl (any_of HT_.out (by kernel_rfl)) (fun _ _ _ h => h) (Or.inl ⟨by rfl, ?_⟩) ?_ ?_
 rotate_left
 ·intro w'
  go_simp
  with_reducible rfl
 rotate_left
 ·simp only [Act.put, List.setIfInBounds_toArray, List.set_cons_zero, List.set_cons_succ, i64_w, i32_w]
  rfl
 refine pure_ (i := 12) (N := some 41) (v := ?_) (a' := ?_) (ba_ 18 8191) rfl rfl (any_of HT_.out (by kernel_rfl)) (fun _ _ _ h => h) (Or.inl ⟨by rfl, ?_⟩) ?_ ?_
 rotate_left
 ·intro w'
  go_simp
  with_reducible rfl
 rotate_left
 ·simp only [Act.put, List.setIfInBounds_toArray, List.set_cons_zero, List.set_cons_succ, i64_w, i32_w]
  rfl
 refine pure_ (i := 13) (N := some 42) (v := ?_) (a' := ?_) (ba_ 18 16383) rfl rfl (any_of HT_.out (by kernel_rfl)) (fun _ _ _ h => h) (Or.inl ⟨by rfl, ?_⟩) ?_ ?_
 rotate_left
 ·intro w'
  go_simp
  with_reducible rfl
 rotate_left
 ·simp only [Act.put, List.setIfInBounds_toArray, List.set_cons_zero, List.set_cons_succ, i64_w, i32_w]
  rfl
 refine pure_ (i := 14) (N := some 43) (v := ?_) (a' := ?_) (ba_ 18 32767) rfl rfl (any_of HT_.out (by kernel_rfl)) (fun _ _ _ h => h) (Or.inl ⟨by rfl, ?_⟩) ?_ ?_
 rotate_left
 ·intro w'
  go_simp
  with_reducible rfl
 rotate_left
 ·simp only [Act.put, List.setIfInBounds_toArray, List.set_cons_zero, List.set_cons_succ, i64_w, i32_w]
  rfl
 refine pure_ (i := 15) (N := some 10) (v := ?_) (a' := ?_) (ba_ 18 65535) rfl rfl (any_of HT_.out (by kernel_rfl)) (fun _ _ _ h => h) (Or.inl ⟨by rfl, ?_⟩) ?_ ?_
 rotate_left
 ·intro w'
  go_simp
  with_reducible rfl
 rotate_left
 ·simp only [Act.put, List.setIfInBounds_toArray, List.set_cons_zero, List.set_cons_succ, i64_w, i32_w]
  rfl
 refine pure_ (i := 16) (N := some 11) (v := ?_) (a' := ?_) (ba_ 18 131071) rfl rfl (any_of HT_.out (by kernel_rfl)) (fun _ _ _ h => h) (Or.inl ⟨by rfl, ?_⟩) ?_ ?_
 rotate_left
 ·intro w'
  go_simp
  with_reducible rfl
 rotate_left
 ·simp only [Act.put, List.setIfInBounds_toArray, List.set_cons_zero, List.set_cons_succ, i64_w, i32_w]
  rfl
 refine pure_ (i := 17) (N := some 12) (v := ?_) (a' := ?_) (ba_ 18 262143) rfl rfl (any_of HT_.out (by kernel_rfl)) (fun _ _ _ h => h) (Or.inl ⟨by rfl, ?_⟩) ?_ ?_
 rotate_left
 ·intro w'
  go_simp
  with_reducible rfl
 rotate_left
 ·simp only [Act.put, List.setIfInBounds_toArray, List.set_cons_zero, List.set_cons_succ, i64_w, i32_w]
  rfl
 refine done_ (done_of HT_.out (by kernel_rfl)) ?_
 clear hHeld T3
 have HSZ := Aside0.mk (show wa.heap.size ≤ wd.heap.size from HW.out.size)
 have HWA := Aside0.mk (show w.heap.size ≤ wa.heap.size from HB.out.size)
 have HGL := Aside0.mk (Kd.R_reads' HG.out).2.1
 have HRL := Aside0.mk (Kd.R_reads' HR.out).2.1
 have HG := Aside0.mk (fresh_F HG.out)
 have HR := Aside0.mk (fresh_F HR.out)
 have G3A := Aside0.mk (show g3 < wa.heap.size from blk_lt Q3.out)
 have G7A := Aside0.mk (show g7 < wa.heap.size from blk_lt Q7.out)
 have Q3 := Aside0.mk (blk_below Q3.out HW.out)
 have Q7 := Aside0.mk (blk_below Q7.out HW.out)
 have HB := Aside0.mk (HB.out.trans (HW.out.mono HB.out.size))
 clear HW HFI HLI
 have hx0 : wd.cell? ⟨g3, 0, none⟩ = some (.int .u64 x.f0.f0) := (blk_cell Q3.out 0).trans rfl
 have hx1 : wd.cell? ⟨g3, 1, none⟩ = some (.int .i64 x.f0.f1) := (blk_cell Q3.out 1).trans rfl
 have hx2 : wd.cell? ⟨g3, 2, none⟩ = some (.int .i64 x.f0.f2) := (blk_cell Q3.out 2).trans rfl
 have hx3 : wd.cell? ⟨g3, 3, none⟩ = some (.slice A3 x.f1.length c3) := (blk_cell Q3.out 3).trans rfl
 have hx4 : wd.cell? ⟨g3, 4, none⟩ = some (.slice A4 x.f2.length c4) := (blk_cell Q3.out 4).trans rfl
 have hx5 : wd.cell? ⟨g3, 5, none⟩ = some (.slice (some ad) x.f3.length c5) := (blk_cell Q3.out 5).trans rfl
 have hx6 : wd.cell? ⟨g3, 6, none⟩ = some (.int .i64 x.f4) := (blk_cell Q3.out 6).trans rfl
 have hx7 : wd.cell? ⟨g3, 7, none⟩ = some (.slice A7 x.f5.length c7) := (blk_cell Q3.out 7).trans rfl
 go_upto_region 10 with (go_at_call 46; refine (net_Clone.calls x HCL.out (fun k => k < w.heap.size) A3 c3 A4 c4 (some ad) c5 A7 c7 wd (HX.out.below HB.out)).mono ?_; rintro e wk ⟨m4, m5, m7, B3, b3, B4, b4, B5, b5, B7, b7, rfl, hclo⟩; have HCLO := Aside0.mk hclo; have HG := Aside0.mk (Kd.F_below HG.out hclo.bl); have HR := Aside0.mk (Kd.F_below HR.out hclo.bl); have WDK := Aside0.mk (show wd.heap.size ≤ wk.heap.size from hclo.bl.size); have Q3 := Aside0.mk (blk_below Q3.out hclo.bl); have Q7 := Aside0.mk (blk_below Q7.out hclo.bl); have HB := Aside0.mk (HB.out.trans (hclo.bl.mono HB.out.size)); clear hclo; clear hx0 hx1 hx2 hx3 hx4 hx5 hx6 hx7; have hx0 : wk.cell? ⟨g3, 0, none⟩ = some (.int .u64 x.f0.f0) := (blk_cell Q3.out 0).trans rfl; have hx1 : wk.cell? ⟨g3, 1, none⟩ = some (.int .i64 x.f0.f1) := (blk_cell Q3.out 1).trans rfl; have hx2 : wk.cell? ⟨g3, 2, none⟩ = some (.int .i64 x.f0.f2) := (blk_cell Q3.out 2).trans rfl; have hx3 : wk.cell? ⟨g3, 3, none⟩ = some (.slice A3 x.f1.length c3) := (blk_cell Q3.out 3).trans rfl; have hx4 : wk.cell? ⟨g3, 4, none⟩ = some (.slice A4 x.f2.length c4) := (blk_cell Q3.out 4).trans rfl; have hx5 : wk.cell? ⟨g3, 5, none⟩ = some (.slice (some ad) x.f3.length c5) := (blk_cell Q3.out 5).trans rfl; have hx6 : wk.cell? ⟨g3, 6, none⟩ = some (.int .i64 x.f4) := (blk_cell Q3.out 6).trans rfl; have hx7 : wk.cell? ⟨g3, 7, none⟩ = some (.slice A7 x.f5.length c7) := (blk_cell Q3.out 7).trans rfl; have hf0 := blk_frozen Q3.out 0; have hf1 := blk_frozen Q3.out 1; have hf2 := blk_frozen Q3.out 2; have hf3 := blk_frozen Q3.out 3; have hf4 := blk_frozen Q3.out 4; have hf5 := blk_frozen Q3.out 5; have hf6 := blk_frozen Q3.out 6; have hf7 := blk_frozen Q3.out 7)
 rw [show ((((((((wk.setCell ⟨g3, 0, none⟩ (.int .u64 x.f0.f0)).setCell ⟨g3, 1, none⟩ (.int .i64 x.f0.f1)).setCell ⟨g3, 2, none⟩ (.int .i64 x.f0.f2)).setCell ⟨g3, 3, none⟩ (.slice B3 x.f1.length b3)).setCell ⟨g3, 4, none⟩ (.slice B4 x.f2.length b4)).setCell ⟨g3, 5, none⟩ (.slice B5 x.f3.length b5)).setCell ⟨g3, 6, none⟩ (.int .i64 x.f4)).setCell ⟨g3, 7, none⟩ (.slice B7 x.f5.length b7)) = put8 wk g3 (.int .u64 x.f0.f0) (.int .i64 x.f0.f1) (.int .i64 x.f0.f2) (.slice B3 x.f1.length b3) (.slice B4 x.f2.length b4) (.slice B5 x.f3.length b5) (.int .i64 x.f4) (.slice B7 x.f5.length b7) from rfl]
 clear hx0 hf0 hx1 hf1 hx2 hf2 hx3 hf3 hx4 hf4 hx5 hf5 hx6 hf6 hx7 hf7
 have hKS := kept8 wk g3 (.int .u64 x.f0.f0) (.int .i64 x.f0.f1) (.int .i64 x.f0.f2) (.slice B3 x.f1.length b3) (.slice B4 x.f2.length b4) (.slice B5 x.f3.length b5) (.int .i64 x.f4) (.slice B7 x.f5.length b7)
 have HB := Aside0.mk (below8 HB.out GE3.out (.int .u64 x.f0.f0) (.int .i64 x.f0.f1) (.int .i64 x.f0.f2) (.slice B3 x.f1.length b3) (.slice B4 x.f2.length b4) (.slice B5 x.f3.length b5) (.int .i64 x.f4) (.slice B7 x.f5.length b7))
 have Q3 := Aside0.mk (blk8 Q3.out (.int .u64 x.f0.f0) (.int .i64 x.f0.f1) (.int .i64 x.f0.f2) (.slice B3 x.f1.length b3) (.slice B4 x.f2.length b4) (.slice B5 x.f3.length b5) (.int .i64 x.f4) (.slice B7 x.f5.length b7))
 have Q7 := Aside0.mk (blk_kept Q7.out hKS (Ne.symm NE.out))
 have WD3 := Aside0.mk (show wa.heap.size ≤ wd.heap.size from HSZ.out)
 have HF3 := Aside0.mk (Kd.F_kept HCLO.out.r3 hKS (fun k hk e => by have h1 := G3A.out; have h2 := HSZ.out; omega))
 have HF4 := Aside0.mk (Kd.F_kept HCLO.out.r4 hKS (fun k hk e => by have h1 := G3A.out; have h2 := HSZ.out; have h3 := GE3.out; have h4 := HCLO.out.h4; rcases hk with hk | hk <;> omega))
 have HN5 := Aside0.mk (Kd.N_kept HCLO.out.n5 hKS (fun k hk e => by have h1 := G3A.out; have h2 := HSZ.out; have h3 := GE3.out; have h4 := HCLO.out.h4; have h5 := HCLO.out.h5; rcases hk with hk | hk <;> omega))
 have HN7 := Aside0.mk (Kd.N_kept HCLO.out.n7 hKS (fun k hk e => by have h1 := G3A.out; have h2 := HSZ.out; have h3 := GE3.out; have h4 := HCLO.out.h4; have h5 := HCLO.out.h5; have h7 := HCLO.out.h7; rcases hk with hk | hk <;> omega))
 have M4 := Aside0.mk (show wd.heap.size ≤ m4 from HCLO.out.h4)
 have M5 := Aside0.mk (show m4 ≤ m5 from HCLO.out.h5)
 have M7 := Aside0.mk (show m5 ≤ m7 from HCLO.out.h7)
 have HLB3 := Aside0.mk HCLO.out.l3
 have HLB4 := Aside0.mk HCLO.out.l4
 have HLB7 := Aside0.mk HCLO.out.l7
 have HLB5 := Aside0.mk HCLO.out.l5
 have HG := Aside0.mk (Kd.F_kept HG.out hKS (fun k hk e => by have h1 := G3A.out; omega))
 have HR := Aside0.mk (Kd.F_kept HR.out hKS (fun k hk e => by have h1 := G3A.out; omega))
 clear hKS HCLO
 generalize put8 wk g3 (.int .u64 x.f0.f0) (.int .i64 x.f0.f1) (.int .i64 x.f0.f2) (.slice B3 x.f1.length b3) (.slice B4 x.f2.length b4) (.slice B5 x.f3.length b5) (.int .i64 x.f4) (.slice B7 x.f5.length b7) = wl at HB Q3 Q7 HF3 HF4 HN5 HN7 HG HR ⊢
 obtain ⟨g5, cap, ev, hge, hlt, cs5, hcs5⟩ := Kd.N_form HN5.out (by have := HJ.out; have := HNT.out; omega)
 simp only [Value.slice.injEq, true_and] at ev
 obtain ⟨rfl, rfl⟩ := ev
 have HGE := Aside0.mk hge
 have HG5 := Aside0.mk (show g5 < m7 from by have h := HN5.out.1 g5 rfl; rcases h with h | h; (have h1 := HWA.out; have h2 := M4.out; have h3 := M5.out; have h4 := HSZ.out; omega); exact h.2)
 have hrc := row_cell HN5.out (i := j) (by have := HJ.out; have := HNT.out; omega)
 obtain ⟨⟨u5, hu5⟩, hz5⟩ := hrc
 have hx5 : wl.cell? ⟨g3, 5, none⟩ = some (.slice (some ⟨g5, 0, none⟩) x.f3.length b5) := (blk_cell Q3.out 5).trans rfl
 clear hge hlt hcs5
 go_upto_region 11 with fail
 clear hx5 hu5 hz5
 have hK5 : Kept wl (wl.setCell ⟨g5, j, none⟩ (.slice R rest.length rc)) (fun k => k = g5) := Kept.setCell (S := fun k => k = g5) (p := ⟨g5, j, none⟩) (Kept.refl _ _) (.inl rfl) _
 have n35 : g3 ≠ g5 := fun e => by have h1 := G3A.out; have h2 := HSZ.out; have h3 := M4.out; have h4 := M5.out; have h5 := HGE.out; omega
 have n75 : g7 ≠ g5 := fun e => by have h1 := G7A.out; have h2 := HSZ.out; have h3 := M4.out; have h4 := M5.out; have h5 := HGE.out; omega
 have HF5 := Aside0.mk (Kd.N_F (row_put51 (Kd.N_mono (ok' := fun k => k ≠ g7 ∧ k ≠ g3) HN5.out (fun k hk => by have h1 := G3A.out; have h2 := G7A.out; have h3 := HSZ.out; have h4 := M4.out; have h5 := M5.out; have h6 := GE3.out; have h7 := GE7.out; rcases hk with hk | hk <;> constructor <;> intro e <;> omega)) (i := j) (by have := HJ.out; have := HNT.out; omega) HRL.out (Kd.F_mono HR.out (fun k hk => ⟨⟨fun e => by have := G7A.out; omega, fun e => by have := G3A.out; omega⟩, fun e => by have h3 := M4.out; have h4 := M5.out; have h5 := HGE.out; omega⟩))))
 have HF3 := Aside0.mk (Kd.F_mono (ok' := fun k => k ≠ g7) (Kd.F_kept HF3.out hK5 (fun k hk e => by have h4 := M5.out; have h5 := HGE.out; omega)) (fun k hk e => by have h2 := G7A.out; have h3 := HSZ.out; omega))
 have HF4 := Aside0.mk (Kd.F_mono (ok' := fun k => k ≠ g7) (Kd.F_kept HF4.out hK5 (fun k hk e => by have h1 := HWA.out; have h2 := HSZ.out; have h3 := M4.out; have h4 := M5.out; have h5 := HGE.out; rcases hk with hk | hk <;> omega)) (fun k hk e => by have h2 := G7A.out; have h3 := HSZ.out; have h4 := M4.out; have h7 := GE7.out; rcases hk with hk | hk <;> omega))
 have HF7 := Aside0.mk (Kd.F_mono (ok' := fun k => k ≠ g7) (Kd.N_F (Kd.N_kept HN7.out hK5 (fun k hk e => by have h1 := HWA.out; have h2 := HSZ.out; have h3 := M4.out; have h4 := M5.out; have h5 := HGE.out; have h6 := HG5.out; rcases hk with hk | hk <;> omega))) (fun k hk e => by have h2 := G7A.out; have h3 := HSZ.out; have h4 := M4.out; have h5 := M5.out; have h6 := M7.out; have h7 := GE7.out; rcases hk with hk | hk <;> omega))
 have HG := Aside0.mk (Kd.F_mono (ok' := fun k => k ≠ g7) (Kd.F_kept HG.out hK5 (fun k hk e => by have h3 := M4.out; have h4 := M5.out; have h5 := HGE.out; omega)) (fun k hk e => by have h2 := G7A.out; omega))
 have Q3 := Aside0.mk (blk_kept Q3.out hK5 n35)
 have Q7 := Aside0.mk (blk_kept Q7.out hK5 n75)
 have HB := Aside0.mk (show Below w.heap.size w (wl.setCell ⟨g5, j, none⟩ (.slice R rest.length rc)) from below_set HB.out (by have h1 := HWA.out; have h2 := HSZ.out; have h3 := M4.out; have h4 := M5.out; have h5 := HGE.out; omega))
 have HLS := Aside0.mk (show (x.f3.set j rest).length = x.f3.length from List.length_set)
 clear hK5 n35 n75 HN5 HN7 HR
 generalize wl.setCell ⟨g5, j, none⟩ (.slice R rest.length rc) = wm at HF5 HF3 HF4 HF7 HG Q3 Q7 HB ⊢
 have HF3 := Aside0.mk (Kd.F_drew HF3.out)
 have HF4 := Aside0.mk (Kd.F_drew HF4.out)
 have HF5 := Aside0.mk (Kd.F_drew HF5.out)
 have HF7 := Aside0.mk (Kd.F_drew HF7.out)
 have HG := Aside0.mk (Kd.F_drew HG.out)
 have Q3 := Aside0.mk (blk_drew Q3.out)
 have Q7 := Aside0.mk (blk_drew Q7.out)
 have HB := Aside0.mk (below_drew1 HB.out)
 refine start_ (n := 5) (S := fun w' => w'.cell? ⟨g3, 0, none⟩ = some (.int .u64 x.f0.f0) ∧ w'.cell? ⟨g3, 1, none⟩ = some (.int .i64 x.f0.f1) ∧ w'.cell? ⟨g3, 2, none⟩ = some (.int .i64 x.f0.f2) ∧ w'.cell? ⟨g3, 3, none⟩ = some (.slice B3 x.f1.length b3) ∧ w'.cell? ⟨g3, 4, none⟩ = some (.slice B4 x.f2.length b4) ∧ w'.cell? ⟨g3, 5, none⟩ = some (.slice (some ⟨g5, 0, none⟩) x.f3.length b5) ∧ w'.cell? ⟨g3, 6, none⟩ = some (.int .i64 x.f4) ∧ w'.cell? ⟨g3, 7, none⟩ = some (.slice B7 x.f5.length b7)) (ds := [3]) #[false, false, false, false, false] (by kernel_rfl) rfl rfl ⟨(blk_cell Q3.out 0).trans rfl, (blk_cell Q3.out 1).trans rfl, (blk_cell Q3.out 2).trans rfl, (blk_cell Q3.out 3).trans rfl, (blk_cell Q3.out 4).trans rfl, (blk_cell Q3.out 5).trans rfl, (blk_cell Q3.out 6).trans rfl, (blk_cell Q3.out 7).trans rfl⟩ (fun hHeld => ?_)
 generalize wm.drew = wt at HF3 HF4 HF5 HF7 HG Q3 Q7 HB hHeld ⊢
 refine with_tabW netDraw.tab11 netDraw.bits11 (fun HT_ HW_ => ?_)
 refine pure_ (i := 0) (N := some 56) (v := ?_) (a' := ?_) #[true, false, false, false, false] rfl rfl (any_of HT_.out (by kernel_rfl)) (fun _ _ _ h => h) (Or.inl ⟨by rfl, ?_⟩) ?_ ?_
 rotate_left
 ·intro w'
  go_simp
  with_reducible rfl
 rotate_left
 ·simp only [Act.put, List.setIfInBounds_toArray, List.set_cons_zero, List.set_cons_succ, i64_w, i32_w]
  rfl
 refine take_ (i := 1) (N := some 57) (v := ?_) (a' := ?_) #[true, true, false, false, false] rfl rfl (take_ofW HT_.out HW_.out (by kernel_rfl)) (fun _ _ _ h => h) (Or.inl ⟨by rfl, ?_⟩) hHeld ?_ ?_
 rotate_left
 ·rintro w' ⟨s0, s1, s2, s3, s4, s5, s6, s7⟩
  go_simp
  with_reducible rfl
 rotate_left
 ·simp only [Act.put, List.setIfInBounds_toArray, List.set_cons_zero, List.set_cons_succ, i64_w, i32_w]
  rfl
 refine pure_ (i := 2) (N := some 6) (v := ?_) (a' := ?_) #[true, true, true, false, false] rfl rfl (any_of HT_.out (by kernel_rfl)) (fun _ _ _ h => h) (Or.inl ⟨by rfl, ?_⟩) ?_ ?_
 rotate_left
 ·intro w'
  go_simp
  with_reducible rfl
 rotate_left
 ·simp only [Act.put, List.setIfInBounds_toArray, List.set_cons_zero, List.set_cons_succ, i64_w, i32_w]
  rfl
 refine last_ (i := 3) (N := none) #[true, true, true, true, false] rfl rfl (one_of HT_.out (by kernel_rfl)) (by decide) (fun K hK => ?_)
 have hv0 : wt.cell? ⟨g7, 0, none⟩ = some (.int .u64 0) := (blk_cell Q7.out 0).trans rfl
 have hw0 := blk_frozen Q7.out 0
 have hv1 : wt.cell? ⟨g7, 1, none⟩ = some (.int .i64 0) := (blk_cell Q7.out 1).trans rfl
 have hw1 := blk_frozen Q7.out 1
 have hv2 : wt.cell? ⟨g7, 2, none⟩ = some (.int .i64 0) := (blk_cell Q7.out 2).trans rfl
 have hw2 := blk_frozen Q7.out 2
 have hv3 : wt.cell? ⟨g7, 3, none⟩ = some (.slice none 0 0) := (blk_cell Q7.out 3).trans rfl
 have hw3 := blk_frozen Q7.out 3
 have hv4 : wt.cell? ⟨g7, 4, none⟩ = some (.slice none 0 0) := (blk_cell Q7.out 4).trans rfl
 have hw4 := blk_frozen Q7.out 4
 have hv5 : wt.cell? ⟨g7, 5, none⟩ = some (.slice none 0 0) := (blk_cell Q7.out 5).trans rfl
 have hw5 := blk_frozen Q7.out 5
 have hv6 : wt.cell? ⟨g7, 6, none⟩ = some (.int .i64 0) := (blk_cell Q7.out 6).trans rfl
 have hw6 := blk_frozen Q7.out 6
 have hv7 : wt.cell? ⟨g7, 7, none⟩ = some (.slice none 0 0) := (blk_cell Q7.out 7).trans rfl
 have hw7 := blk_frozen Q7.out 7
 refine skip_ (w1 := ?_) (by rfl) rfl ?_ ?_
 rotate_left
 ·go_simp
  rfl
 refine hK.out _ _ ?_
 clear hK K
 refine pure_ (i := 4) (N := some 8) (v := ?_) (a' := ?_) #[true, true, true, true, true] rfl rfl (any_of HT_.out (by kernel_rfl)) (fun _ _ _ h => h) (Or.inl ⟨by rfl, ?_⟩) ?_ ?_
 rotate_left
 ·intro w'
  go_simp
  with_reducible rfl
 rotate_left
 ·simp only [Act.put, List.setIfInBounds_toArray, List.set_cons_zero, List.set_cons_succ, i64_w, i32_w]
  rfl
 refine done_ (done_of HT_.out (by kernel_rfl)) ?_
 rw [show ((((((((wt.setCell ⟨g7, 0, none⟩ (.int .u64 x.f0.f0)).setCell ⟨g7, 1, none⟩ (.int .i64 x.f0.f1)).setCell ⟨g7, 2, none⟩ (.int .i64 x.f0.f2)).setCell ⟨g7, 3, none⟩ (.slice B3 x.f1.length b3)).setCell ⟨g7, 4, none⟩ (.slice B4 x.f2.length b4)).setCell ⟨g7, 5, none⟩ (.slice (some ⟨g5, 0, none⟩) x.f3.length b5)).setCell ⟨g7, 6, none⟩ (.int .i64 x.f4)).setCell ⟨g7, 7, none⟩ (.slice B7 x.f5.length b7)) = put8 wt g7 (.int .u64 x.f0.f0) (.int .i64 x.f0.f1) (.int .i64 x.f0.f2) (.slice B3 x.f1.length b3) (.slice B4 x.f2.length b4) (.slice (some ⟨g5, 0, none⟩) x.f3.length b5) (.int .i64 x.f4) (.slice B7 x.f5.length b7) from rfl]
 have hK8 := kept8 wt g7 (.int .u64 x.f0.f0) (.int .i64 x.f0.f1) (.int .i64 x.f0.f2) (.slice B3 x.f1.length b3) (.slice B4 x.f2.length b4) (.slice (some ⟨g5, 0, none⟩) x.f3.length b5) (.int .i64 x.f4) (.slice B7 x.f5.length b7)
 have hB8 := below8 HB.out GE7.out (.int .u64 x.f0.f0) (.int .i64 x.f0.f1) (.int .i64 x.f0.f2) (.slice B3 x.f1.length b3) (.slice B4 x.f2.length b4) (.slice (some ⟨g5, 0, none⟩) x.f3.length b5) (.int .i64 x.f4) (.slice B7 x.f5.length b7)
 have hb8 := blk8 Q7.out (.int .u64 x.f0.f0) (.int .i64 x.f0.f1) (.int .i64 x.f0.f2) (.slice B3 x.f1.length b3) (.slice B4 x.f2.length b4) (.slice (some ⟨g5, 0, none⟩) x.f3.length b5) (.int .i64 x.f4) (.slice B7 x.f5.length b7)
 have h3 := Kd.F_now (Kd.F_kept HF3.out hK8 (fun k hk e => hk e))
 have h4 := Kd.F_now (Kd.F_kept HF4.out hK8 (fun k hk e => hk e))
 have h5 := Kd.F_now (Kd.F_kept HF5.out hK8 (fun k hk e => hk.1 e))
 have h7 := Kd.F_now (Kd.F_kept HF7.out hK8 (fun k hk e => hk e))
 have hg := Kd.F_now (Kd.F_kept HG.out hK8 (fun k hk e => hk e))
 generalize put8 wt g7 (.int .u64 x.f0.f0) (.int .i64 x.f0.f1) (.int .i64 x.f0.f2) (.slice B3 x.f1.length b3) (.slice B4 x.f2.length b4) (.slice (some ⟨g5, 0, none⟩) x.f3.length b5) (.int .i64 x.f4) (.slice B7 x.f5.length b7) = wz at hB8 hb8 h3 h4 h5 h7 hg ⊢
 clear hHeld hv0 hw0 hv1 hw1 hv2 hw2 hv3 hw3 hv4 hw4 hv5 hw5 hv6 hw6 hv7 hw7
 try go_wp2
 refine bodyPost_ret (results_list (rs := [.tmp 6, .cell 7 30, .tmp 8]) rfl (by simp) (.tmp (.cell g7 30 #[.int .u64 x.f0.f0, .int .i64 x.f0.f1, .int .i64 x.f0.f2, .slice B3 x.f1.length b3, .slice B4 x.f2.length b4, .slice (some ⟨g5, 0, none⟩) x.f3.length b5, .int .i64 x.f4, .slice B7 x.f5.length b7] (0, 0) _ rfl hb8 Try.underlying30 rfl (by kernel_rfl) (.tmp .nil)))) (by rfl) ?_
 refine ⟨G, d, B3, b3, B4, b4, some ⟨g5, 0, none⟩, b5, B7, b7, ?_, hg, HGL.out, k30_mk wz (⟨x.f0, x.f1, x.f2, x.f3.set j rest, x.f4, x.f5⟩ : S30) HLB3.out h3 HLB4.out h4 (by show (x.f3.set j rest).length ≤ b5; rw [HLS.out]; exact HLB5.out) (by show Kd.C _ wz _ (x.f3.set j rest).length _; rw [HLS.out]; exact h5) HLB7.out h7, hB8⟩
 show _ = Ending.returned (.tuple #[.slice G l.length d, .agg #[.int .u64 x.f0.f0, .int .i64 x.f0.f1, .int .i64 x.f0.f2, .slice B3 x.f1.length b3, .slice B4 x.f2.length b4, .slice (some ⟨g5, 0, none⟩) (x.f3.set j rest).length b5, .int .i64 x.f4, .slice B7 x.f5.length b7], .int .i64 0])
 rw [HLS.out]
 rfl
end
end Go.Proofs.Ytkaikgbcnmfppaa.Nb
