/- juntoref17.Clone walked. Made by mk_refclone.py. -/
import Derived.Test.YtkaikgbcnmfppaaNbCopies
import Derived.Test.YtkaikgbcnmfppaaNbRun
import Derived.Test.YtkaikgbcnmfppaaNbFRef17Copy
import Derived.BigRegion
namespace Go.Proofs.Ytkaikgbcnmfppaa.Nb
open Go Go.RowKit Go.Proofs.YtkaikgbcnmfppaaW.PrintWords Go.Proofs.YtkaikgbcnmfppaaW.PrintLast Go.Proofs.YtkaikgbcnmfppaaW.PrintMore
attribute [local go_sem] max2_int min2_int max_two min_two max_three min_three max_four min_four
set_option linter.unusedVariables false
set_option linter.unusedSimpArgs false
noncomputable section
def refClone.T6 : Bool × List (List Nat × List Nat) := (true, [([], []), ([0], [0]), ([], []), ([], []), ([], []), ([4], [4]), ([], []), ([5, 6], [5, 6]), ([7], [7]), ([8], [8]), ([3, 9], [3, 9]), ([1, 2, 0, 1, 2, 3, 4, 5, 6, 7, 8, 9, 10], [1, 2]), ([11, 0, 1, 2, 3, 4, 5, 6, 7, 8, 9, 10], [11]), ([12, 10, 10, 0, 1, 2, 3, 4, 5, 6, 7, 8, 9, 10], [10, 12])])
def refClone.B6 : List Nat := [0, 1, 0, 0, 0, 16, 0, 112, 240, 496, 1016, 2047, 4095, 8191]
theorem refClone.tab6 : rtab .any (opsOf Try.f14 6) = refClone.T6 := by kernel_rfl
theorem refClone.bits6 : waitsOk refClone.T6.2 refClone.B6 = true := by kernel_rfl
def refClone.T13 : Bool × List (List Nat × List Nat) := (true, [([], []), ([0], [0]), ([], []), ([], []), ([], []), ([4], [4]), ([], []), ([5, 6], [5, 6]), ([7], [7]), ([8], [8]), ([3, 9], [3, 9]), ([1, 2, 0, 1, 2, 3, 4, 5, 6, 7, 8, 9, 10], [1, 2]), ([11, 0, 1, 2, 3, 4, 5, 6, 7, 8, 9, 10], [11]), ([12, 10, 10, 0, 1, 2, 3, 4, 5, 6, 7, 8, 9, 10], [10, 12])])
def refClone.B13 : List Nat := [0, 1, 0, 0, 0, 16, 0, 112, 240, 496, 1016, 2047, 4095, 8191]
theorem refClone.tab13 : rtab .any (opsOf Try.f14 13) = refClone.T13 := by kernel_rfl
theorem refClone.bits13 : waitsOk refClone.T13.2 refClone.B13 = true := by kernel_rfl
set_option maxHeartbeats 16000000 in
set_option maxRecDepth 100000 in
theorem refClone.calls (x : S30) (wf : Wf30 x) (A3 : Option Addr) (c3 : Nat) (A4 : Option Addr) (c4 : Nat) (A5 : Option Addr) (c5 : Nat) (A7 : Option Addr) (c7 : Nat) (w : World) (hx : k30.K w x (wv x A3 c3 A4 c4 A5 c5 A7 c7).toList) :
  Calls Try.prog 14 #[.agg (wv x A3 c3 A4 c4 A5 c5 A7 c7)] w fun e w' => ∃ B3 b3 B4 b4 B5 b5 B7 b7, e = .returned (.agg (wv x B3 b3 B4 b4 B5 b5 B7 b7)) ∧ k30.K w' x (wv x B3 b3 B4 b4 B5 b5 B7 b7).toList ∧ Below w.heap.size w w' := by
 have hu30 := Try.underlying30
 have hu24 := Try.underlying24
 have hu72 := Try.underlying72
 have HX := Qz.mk (XF.of hx)
 have HL3 := Qz.mk (show x.f1.length * 8 ≤ 140737488351232 from wf.co.2.1)
 have HL4 := Qz.mk (show x.f2.length * 56 ≤ 140737488351232 from wf.ac.2.1)
 have HL5 := Qz.mk (show x.f3.length ≤ 5864062014634 from by have := wf.ta.2.1; omega)
 have HD5 := Qz.mk (show ∀ i, i < x.f3.length → (x.f3.getD i []).length < 17592186044416 from fun i hi => WfD.lt (wf.ta.2.2 _ (by rw [List.getD_eq_getElem?_getD, List.getElem?_eq_getElem hi]; exact List.getElem_mem _)))
 have HL7 := Qz.mk (show x.f5.length * 48 ≤ 140737488351232 from wf.se.2.1)
 have HD4 := Qz.mk (show ∀ a ∈ x.f2, a.f4.length < 17592186044416 from fun a ha => WfD.lt (wf.ac.2.2 a ha).2.2.2)
 have HD7 := Qz.mk (show ∀ a ∈ x.f5, a.f3.length < 17592186044416 from fun a ha => WfD.lt (wf.se.2.2 a ha).2.2.2)
 clear hx wf
 go_enter Try.func14, Try.ntmps14
 go_upto_region 1 with (first
   | ((with_reducible refine gdt (N := 1) rfl ?_); refine bxe ?hg (N := 1) ?hd (cs := wv x A3 c3 A4 c4 A5 c5 A7 c7) (t := 30) ?hr ?_; (case hd => rfl); (case hg => rfl); (case hr => first | (go_simp; done) | (go_simp; rfl)); intro g1 hg1 w1 hbox hb1; have B1 := Qz.mk hbox; have HB := Qz.mk hb1; have GE1 := Qz.mk (show w.heap.size ≤ g1 from Nat.le_of_eq hg1.symm); clear hg1 hbox hb1)
   | ((with_reducible refine gdt (N := 2) rfl ?_); refine bxe ?hg (N := 2) ?hd (cs := #[.int .u64 0, .int .i64 0, .int .i64 0, .slice none 0 0, .slice none 0 0, .slice none 0 0, .int .i64 0, .slice none 0 0]) (t := 30) ?hr ?_; (case hd => rfl); (case hg => rfl); (case hr => first | (go_simp; done) | (go_simp; rfl)); intro g2 hg2 w2 hbox hb2; have B2 := Qz.mk hbox; have NE := Qz.mk (show g1 ≠ g2 from by rw [hg2]; exact Nat.ne_of_lt (blt B1.out)); have GE2 := Qz.mk (show w.heap.size ≤ g2 from by rw [hg2]; exact HB.out.size); have B1 := Qz.mk (bkb B1.out hb2); have HB := Qz.mk (HB.out.trans (hb2.mono HB.out.size)); clear hg2 hbox hb2))
 go_upto_region 2 with (first
   | ((with_reducible refine gdt (N := 5) rfl ?_); refine Kd.R_lit (Kd.int .i64) w2.heap.size 3 ?hg (N := 5) ?hd (xs := ([] : List _)) (inner := []) (ok := (fun k => k ≠ g1 ∧ k ≠ g2)) (okp := fun _ => False) ?hr ?hp (fun _ hk => hk.elim) ⟨fun e => by have := blt B1.out; omega, fun e => by have := blt B2.out; omega⟩ (Below.refl _ _) (Nat.le_refl _) (by simp) ?_; (case hd => rfl); (case hg => rfl); (case hr => first | (go_simp; done) | (go_simp; rfl)); (case hp => exact (Reps.none _ _)); intro vl1 wl1 ho hb hg_ hnew_; have HN1 := Qz.mk (Kd.R_N ho); have HW1 := Qz.mk hb; have B1 := Qz.mk (blk_grown B1.out hg_ (by simp)); have B2 := Qz.mk (blk_grown B2.out hg_ (by simp)); clear ho hb hg_ hnew_; have hx3 : wl1.cell? ⟨g1, 3, none⟩ = some (.slice A3 x.f1.length c3) := (bc_ B1.out 3).trans rfl)
   | ((with_reducible refine gbi (b := .append) (xs := #[.tmp 5, .tmp 7]) rfl ?_); at_builtin; refine Kd.N_append_rows (Kd.int .i64) w2.heap.size rfl (.tmp 5) (.tmp 7) 25 3 (.int .i64 0) 8 rfl Try.underlying25 info3 rfl (by decide) (by omega) vl1 [] x.f1 _ _ _ (fun k => k ≠ g1 ∧ k ≠ g2) (fun k => k < w.heap.size) rfl rfl HN1.out (Kd.F_below HX.out.r3 (HB.out.trans (HW1.out.mono HB.out.size))) (fun k hk => ⟨⟨fun e => by have := GE1.out; omega, fun e => by have := GE2.out; omega⟩, fun e => by have := Kd.N_base HN1.out k e.symm; have := HB.out.size; omega⟩) (fun k hk => ⟨fun e => by have := blt B1.out; omega, fun e => by have := blt B2.out; omega⟩) HW1.out HW1.out.size (by have := HL3.out; simp only [List.length_nil]; omega) ?_; intro v1 wa1 hn hb hg hat; rw [List.nil_append] at hn; have B1 := Qz.mk (blk_grown B1.out hg (Kd.N_ne HN1.out B1.out (by decide))); have B2 := Qz.mk (blk_grown B2.out hg (Kd.N_ne HN1.out B2.out (by decide))); obtain ⟨B3, b3, rfl⟩ := Kd.N_slice hn; have HN1 := Qz.mk hn; have HW1 := Qz.mk hb; clear hn hb hg hat hx3; have hx3 : wa1.cell? ⟨g1, 3, none⟩ = some (.slice A3 x.f1.length c3) := (bc_ B1.out 3).trans rfl; have hf3 := bf_ B1.out 3))
 have HN1 := Qz.mk (Kd.N_kept HN1.out (Kept.setCell (S := fun k => k = g1) (p := ⟨g1, 3, none⟩) (Kept.refl _ _) (.inl rfl) (.slice B3 x.f1.length b3)) (fun k hk e => hk.1 e))
 have HB := Qz.mk (show Below w.heap.size w (wa1.setCell ⟨g1, 3, none⟩ (.slice B3 x.f1.length b3)) from bset (HB.out.trans (HW1.out.mono HB.out.size)) GE1.out)
 have HK1 := Qz.mk (show Kept w2 (wa1.setCell ⟨g1, 3, none⟩ (.slice B3 x.f1.length b3)) (fun k => k = g1) from Kept.setCell (S := fun k => k = g1) (p := ⟨g1, 3, none⟩) (Kept.of_below HW1.out (fun k => k = g1)) (.inl rfl) _)
 have B1 := Qz.mk (show (wa1.setCell ⟨g1, 3, none⟩ (.slice B3 x.f1.length b3)).heap[g1]? = some (.cells #[.int .u64 x.f0.f0, .int .i64 x.f0.f1, .int .i64 x.f0.f2, .slice B3 x.f1.length b3, .slice A4 x.f2.length c4, .slice A5 x.f3.length c5, .int .i64 x.f4, .slice A7 x.f5.length c7] 30 (0, 0)) from (bks B1.out 3 _).trans rfl)
 have B2 := Qz.mk (bkf (p := ⟨g1, 3, none⟩) B2.out (Ne.symm NE.out) (.slice B3 x.f1.length b3))
 generalize wa1.setCell ⟨g1, 3, none⟩ (.slice B3 x.f1.length b3) = wA at HN1 HB HK1 B1 B2 ⊢
 clear hx3 hf3 HW1
 have HLB3 := Qz.mk (Kd.N_reads' HN1.out).2.1
 have HF3 := Qz.mk (Kd.F_bound (Kd.N_F HN1.out))
 clear HN1 HK1
 have GS1 := Qz.mk (blt B1.out)
 have GS2 := Qz.mk (blt B2.out)
 have HW0 := Qz.mk HB.out.size
 go_upto_region 3 with (first
   | ((with_reducible refine gdt (N := 10) rfl ?_); refine Kd.R_lit (k72) wA.heap.size 72 ?hg (N := 10) ?hd (xs := ([] : List _)) (inner := []) (ok := (fun k => k ≠ g1 ∧ k ≠ g2)) (okp := fun _ => False) ?hr ?hp (fun _ hk => hk.elim) ⟨fun e => by have := blt B1.out; omega, fun e => by have := blt B2.out; omega⟩ (Below.refl _ _) (Nat.le_refl _) (by simp) ?_; (case hd => rfl); (case hg => rfl); (case hr => first | (go_simp; done) | (go_simp; rfl)); (case hp => exact (Reps.none _ _)); intro vl2 wl2 ho hb hg_ hnew_; have HN2 := Qz.mk (Kd.R_N ho); have HW2 := Qz.mk hb; have B1 := Qz.mk (blk_grown B1.out hg_ (by simp)); have B2 := Qz.mk (blk_grown B2.out hg_ (by simp)); clear ho hb hg_ hnew_; have hx4 : wl2.cell? ⟨g1, 4, none⟩ = some (.slice A4 x.f2.length c4) := (bc_ B1.out 4).trans rfl)
   | ((with_reducible refine gbi (b := .append) (xs := #[.tmp 10, .tmp 12]) rfl ?_); at_builtin; refine Kd.N_append_rows (k72) wA.heap.size rfl (.tmp 10) (.tmp 12) 26 72 (.agg #[(.int .i64 0), (.int .i64 0), (.int .i64 0), (.bool false), (.slice none 0 0)]) 56 rfl Try.underlying26 info72 rfl (by decide) (by omega) vl2 [] x.f2 _ _ _ (fun k => k ≠ g1 ∧ k ≠ g2) (fun k => k < w.heap.size) rfl rfl HN2.out (Kd.F_below HX.out.r4 (HB.out.trans (HW2.out.mono HB.out.size))) (fun k hk => ⟨⟨fun e => by have := GE1.out; omega, fun e => by have := GE2.out; omega⟩, fun e => by have := Kd.N_base HN2.out k e.symm; have := HB.out.size; omega⟩) (fun k hk => ⟨fun e => by have := blt B1.out; omega, fun e => by have := blt B2.out; omega⟩) HW2.out HW2.out.size (by have := HL4.out; simp only [List.length_nil]; omega) ?_; intro v1 wa2 hn hb hg hat; rw [List.nil_append] at hn; have B1 := Qz.mk (blk_grown B1.out hg (Kd.N_ne HN2.out B1.out (by decide))); have B2 := Qz.mk (blk_grown B2.out hg (Kd.N_ne HN2.out B2.out (by decide))); obtain ⟨B4, b4, rfl⟩ := Kd.N_slice hn; have HN2 := Qz.mk hn; have HW2 := Qz.mk hb; clear hn hb hg hat hx4; have hx4 : wa2.cell? ⟨g1, 4, none⟩ = some (.slice A4 x.f2.length c4) := (bc_ B1.out 4).trans rfl; have hf4 := bf_ B1.out 4))
 have HN2 := Qz.mk (Kd.N_kept HN2.out (Kept.setCell (S := fun k => k = g1) (p := ⟨g1, 4, none⟩) (Kept.refl _ _) (.inl rfl) (.slice B4 x.f2.length b4)) (fun k hk e => hk.1 e))
 have HB := Qz.mk (show Below w.heap.size w (wa2.setCell ⟨g1, 4, none⟩ (.slice B4 x.f2.length b4)) from bset (HB.out.trans (HW2.out.mono HB.out.size)) GE1.out)
 have HK2 := Qz.mk (show Kept wA (wa2.setCell ⟨g1, 4, none⟩ (.slice B4 x.f2.length b4)) (fun k => k = g1) from Kept.setCell (S := fun k => k = g1) (p := ⟨g1, 4, none⟩) (Kept.of_below HW2.out (fun k => k = g1)) (.inl rfl) _)
 have B1 := Qz.mk (show (wa2.setCell ⟨g1, 4, none⟩ (.slice B4 x.f2.length b4)).heap[g1]? = some (.cells #[.int .u64 x.f0.f0, .int .i64 x.f0.f1, .int .i64 x.f0.f2, .slice B3 x.f1.length b3, .slice B4 x.f2.length b4, .slice A5 x.f3.length c5, .int .i64 x.f4, .slice A7 x.f5.length c7] 30 (0, 0)) from (bks B1.out 4 _).trans rfl)
 have B2 := Qz.mk (bkf (p := ⟨g1, 4, none⟩) B2.out (Ne.symm NE.out) (.slice B4 x.f2.length b4))
 generalize wa2.setCell ⟨g1, 4, none⟩ (.slice B4 x.f2.length b4) = wB at HN2 HB HK2 B1 B2 ⊢
 clear hx4 hf4 HW2
 have HLB4 := Qz.mk (Kd.N_reads' HN2.out).2.1
 have HF3 := Qz.mk (Kd.F_kept HF3.out HK2.out (fun k hk e => hk.1.1 e))
 clear HK2
 have HG1 := Qz.mk (show g1 < wA.heap.size from GS1.out)
 have HG2 := Qz.mk (show g2 < wA.heap.size from GS2.out)
 have hxl : wB.cell? ⟨g1, 4, none⟩ = some (.slice B4 x.f2.length b4) := (bc_ B1.out 4).trans rfl
 go_wp2
 clear hxl
 go_loopg [18] x.f2.length (fun kq v18 w' => ∃ i : Nat, v18 = .int .i64 (i : Int) ∧ Qz (i + kq = x.f2.length) ∧ Qz (Kd.N k72 72 w' wA.heap.size (fun k => k ≠ g1 ∧ k ≠ g2) (.slice B4 x.f2.length b4) x.f2) ∧ Qz (Kd.F (Kd.int .i64) w' (fun k => (k ≠ g1 ∧ k ≠ g2) ∧ k < wA.heap.size) B3 x.f1.length x.f1) ∧ Qz (w'.heap[g1]? = some (.cells #[.int .u64 x.f0.f0, .int .i64 x.f0.f1, .int .i64 x.f0.f2, .slice B3 x.f1.length b3, .slice B4 x.f2.length b4, .slice A5 x.f3.length c5, .int .i64 x.f4, .slice A7 x.f5.length c7] 30 (0, 0))) ∧ Qz (w'.heap[g2]? = some (.cells #[.int .u64 0, .int .i64 0, .int .i64 0, .slice none 0 0, .slice none 0 0, .slice none 0 0, .int .i64 0, .slice none 0 0] 30 (0, 0))) ∧ Qz (Below w.heap.size w w'))
 case atStart => exact ⟨0, rfl, ⟨by simp⟩, HN2, HF3, B1, B2, HB⟩
 case round =>
  clear HN2 HF3 B1 B2 HB
  obtain ⟨i, rfl, HI, HN2, HF3, B1, B2, HB⟩ := hrel
  cases gk with
  | zero =>
   have y1 : decide ((i : Int) < (x.f2.length : Int)) = false := decide_eq_false (by have := HI.out; omega)
   have y2 : decide (i < x.f2.length) = false := decide_eq_false (by have := HI.out; omega)
   have hx5 : wr.cell? ⟨g1, 5, none⟩ = some (.slice A5 x.f3.length c5) := (bc_ B1.out 5).trans rfl
   obtain ⟨kc, hkc⟩ := copy_some x.f3 HL5.out HD5.out
   have HF4 := Qz.mk (Kd.F_bound (Kd.N_F HN2.out))
   have GR1 := Qz.mk (blt B1.out)
   have GR2 := Qz.mk (blt B2.out)
   clear HN2
   go_upto_region 9 with (go_at_call 19; refine (jCp.calls kc A5 c5 x.f3 x.f3 wr (Kd.F_now (Kd.F_below HX.out.r5 HB.out)) HX.out.l5 hkc).mono ?_; rintro e wc ⟨v0, rfl, hS, hbc⟩; have HN5 := Qz.mk (Kd.S_N (Kd.S_mono (ok' := (fun k => k ≠ g1 ∧ k ≠ g2)) (Kd.S_bound hS) (fun k hk => ⟨fun e => by have h1 := GR1.out; have h2 := hk.2.1; omega, fun e => by have h1 := GR2.out; have h2 := hk.2.1; omega⟩))); obtain ⟨B5, b5, rfl⟩ := Kd.N_slice HN5.out; have HF3 := Qz.mk (Kd.F_below HF3.out hbc); have HF4 := Qz.mk (Kd.F_below HF4.out hbc); have B1 := Qz.mk (bkb B1.out hbc); have B2 := Qz.mk (bkb B2.out hbc); have HB := Qz.mk (HB.out.trans (hbc.mono HB.out.size)); clear hS hbc hx5; have hx5 : wc.cell? ⟨g1, 5, none⟩ = some (.slice A5 x.f3.length c5) := (bc_ B1.out 5).trans rfl; have hf5 := bf_ B1.out 5)
   have HLB5 := Qz.mk (Kd.N_reads' HN5.out).2.1
   have HKC := Qz.mk (show Kept wc (wc.setCell ⟨g1, 5, none⟩ (.slice B5 x.f3.length b5)) (fun k => k = g1) from Kept.setCell (S := fun k => k = g1) (p := ⟨g1, 5, none⟩) (Kept.refl _ _) (.inl rfl) _)
   have HF3 := Qz.mk (Kd.F_kept HF3.out HKC.out (fun k hk e => hk.1.1 e))
   have HF4 := Qz.mk (Kd.F_kept HF4.out HKC.out (fun k hk e => hk.1.1 e))
   have HF5 := Qz.mk (Kd.F_kept (Kd.N_F HN5.out) HKC.out (fun k hk e => hk.1 e))
   have B1 := Qz.mk (show (wc.setCell ⟨g1, 5, none⟩ (.slice B5 x.f3.length b5)).heap[g1]? = some (.cells #[.int .u64 x.f0.f0, .int .i64 x.f0.f1, .int .i64 x.f0.f2, .slice B3 x.f1.length b3, .slice B4 x.f2.length b4, .slice B5 x.f3.length b5, .int .i64 x.f4, .slice A7 x.f5.length c7] 30 (0, 0)) from (bks B1.out 5 _).trans rfl)
   have B2 := Qz.mk (bkf (p := ⟨g1, 5, none⟩) B2.out (Ne.symm NE.out) (.slice B5 x.f3.length b5))
   have HB := Qz.mk (show Below w.heap.size w (wc.setCell ⟨g1, 5, none⟩ (.slice B5 x.f3.length b5)) from bset HB.out GE1.out)
   clear HN5 HKC hx5 hf5 GR1 GR2
   generalize wc.setCell ⟨g1, 5, none⟩ (.slice B5 x.f3.length b5) = wC at HF3 HF4 HF5 B1 B2 HB ⊢
   have HF3 := Qz.mk (Kd.F_mono (ok' := fun k => (k ≠ g1 ∧ k ≠ g2) ∧ k < wC.heap.size) (Kd.F_bound HF3.out) (fun k hk => ⟨hk.1.1, hk.2⟩))
   have HF4 := Qz.mk (Kd.F_mono (ok' := fun k => (k ≠ g1 ∧ k ≠ g2) ∧ k < wC.heap.size) (Kd.F_bound HF4.out) (fun k hk => ⟨hk.1.1, hk.2⟩))
   have HF5 := Qz.mk (Kd.F_bound HF5.out)
   have HG1 := Qz.mk (blt B1.out)
   have HG2 := Qz.mk (blt B2.out)
   have HW0 := Qz.mk HB.out.size
   go_upto_region 10 with (first
     | ((with_reducible refine gdt (N := 39) rfl ?_); refine Kd.R_lit (k77) wC.heap.size 77 ?hg (N := 39) ?hd (xs := ([] : List _)) (inner := []) (ok := (fun k => k ≠ g1 ∧ k ≠ g2)) (okp := fun _ => False) ?hr ?hp (fun _ hk => hk.elim) ⟨fun e => by have := blt B1.out; omega, fun e => by have := blt B2.out; omega⟩ (Below.refl _ _) (Nat.le_refl _) (by simp) ?_; (case hd => rfl); (case hg => rfl); (case hr => first | (go_simp; done) | (go_simp; rfl)); (case hp => exact (Reps.none _ _)); intro vl7 wl7 ho hb hg_ hnew_; have HN7 := Qz.mk (Kd.R_N ho); have HW7 := Qz.mk hb; have B1 := Qz.mk (blk_grown B1.out hg_ (by simp)); have B2 := Qz.mk (blk_grown B2.out hg_ (by simp)); clear ho hb hg_ hnew_; have hx7 : wl7.cell? ⟨g1, 7, none⟩ = some (.slice A7 x.f5.length c7) := (bc_ B1.out 7).trans rfl)
     | ((with_reducible refine gbi (b := .append) (xs := #[.tmp 39, .tmp 41]) rfl ?_); at_builtin; refine Kd.N_append_rows (k77) wC.heap.size rfl (.tmp 39) (.tmp 41) 28 77 (.agg #[(.int .i64 0), (.int .i64 0), (.int .i64 0), (.slice none 0 0)]) 48 rfl Try.underlying28 info77 rfl (by decide) (by omega) vl7 [] x.f5 _ _ _ (fun k => k ≠ g1 ∧ k ≠ g2) (fun k => k < w.heap.size) rfl rfl HN7.out (Kd.F_below HX.out.r7 (HB.out.trans (HW7.out.mono HB.out.size))) (fun k hk => ⟨⟨fun e => by have := GE1.out; omega, fun e => by have := GE2.out; omega⟩, fun e => by have := Kd.N_base HN7.out k e.symm; have := HB.out.size; omega⟩) (fun k hk => ⟨fun e => by have := blt B1.out; omega, fun e => by have := blt B2.out; omega⟩) HW7.out HW7.out.size (by have := HL7.out; simp only [List.length_nil]; omega) ?_; intro v1 wa7 hn hb hg hat; rw [List.nil_append] at hn; have B1 := Qz.mk (blk_grown B1.out hg (Kd.N_ne HN7.out B1.out (by decide))); have B2 := Qz.mk (blk_grown B2.out hg (Kd.N_ne HN7.out B2.out (by decide))); obtain ⟨B7, b7, rfl⟩ := Kd.N_slice hn; have HN7 := Qz.mk hn; have HW7 := Qz.mk hb; clear hn hb hg hat hx7; have hx7 : wa7.cell? ⟨g1, 7, none⟩ = some (.slice A7 x.f5.length c7) := (bc_ B1.out 7).trans rfl; have hf7 := bf_ B1.out 7))
   have HN7 := Qz.mk (Kd.N_kept HN7.out (Kept.setCell (S := fun k => k = g1) (p := ⟨g1, 7, none⟩) (Kept.refl _ _) (.inl rfl) (.slice B7 x.f5.length b7)) (fun k hk e => hk.1 e))
   have HB := Qz.mk (show Below w.heap.size w (wa7.setCell ⟨g1, 7, none⟩ (.slice B7 x.f5.length b7)) from bset (HB.out.trans (HW7.out.mono HB.out.size)) GE1.out)
   have HK7 := Qz.mk (show Kept wC (wa7.setCell ⟨g1, 7, none⟩ (.slice B7 x.f5.length b7)) (fun k => k = g1) from Kept.setCell (S := fun k => k = g1) (p := ⟨g1, 7, none⟩) (Kept.of_below HW7.out (fun k => k = g1)) (.inl rfl) _)
   have B1 := Qz.mk (show (wa7.setCell ⟨g1, 7, none⟩ (.slice B7 x.f5.length b7)).heap[g1]? = some (.cells #[.int .u64 x.f0.f0, .int .i64 x.f0.f1, .int .i64 x.f0.f2, .slice B3 x.f1.length b3, .slice B4 x.f2.length b4, .slice B5 x.f3.length b5, .int .i64 x.f4, .slice B7 x.f5.length b7] 30 (0, 0)) from (bks B1.out 7 _).trans rfl)
   have B2 := Qz.mk (bkf (p := ⟨g1, 7, none⟩) B2.out (Ne.symm NE.out) (.slice B7 x.f5.length b7))
   generalize wa7.setCell ⟨g1, 7, none⟩ (.slice B7 x.f5.length b7) = wD at HN7 HB HK7 B1 B2 ⊢
   clear hx7 hf7 HW7
   have HF3 := Qz.mk (Kd.F_kept HF3.out HK7.out (fun k hk e => hk.1.1 e))
   have HF4 := Qz.mk (Kd.F_kept HF4.out HK7.out (fun k hk e => hk.1.1 e))
   have HF5 := Qz.mk (Kd.F_kept HF5.out HK7.out (fun k hk e => hk.1.1 e))
   clear HK7
   have hxl : wD.cell? ⟨g1, 7, none⟩ = some (.slice B7 x.f5.length b7) := (bc_ B1.out 7).trans rfl
   go_wp2
   clear hxl
   go_loopg [47] x.f5.length (fun kq v47 w' => ∃ i : Nat, v47 = .int .i64 (i : Int) ∧ Qz (i + kq = x.f5.length) ∧ Qz (Kd.N k77 77 w' wC.heap.size (fun k => k ≠ g1 ∧ k ≠ g2) (.slice B7 x.f5.length b7) x.f5) ∧ Qz (Kd.F (Kd.int .i64) w' (fun k => (k ≠ g1 ∧ k ≠ g2) ∧ k < wC.heap.size) B3 x.f1.length x.f1) ∧ Qz (Kd.F k72 w' (fun k => (k ≠ g1 ∧ k ≠ g2) ∧ k < wC.heap.size) B4 x.f2.length x.f2) ∧ Qz (Kd.F kD w' (fun k => (k ≠ g1 ∧ k ≠ g2) ∧ k < wC.heap.size) B5 x.f3.length x.f3) ∧ Qz (w'.heap[g1]? = some (.cells #[.int .u64 x.f0.f0, .int .i64 x.f0.f1, .int .i64 x.f0.f2, .slice B3 x.f1.length b3, .slice B4 x.f2.length b4, .slice B5 x.f3.length b5, .int .i64 x.f4, .slice B7 x.f5.length b7] 30 (0, 0))) ∧ Qz (w'.heap[g2]? = some (.cells #[.int .u64 0, .int .i64 0, .int .i64 0, .slice none 0 0, .slice none 0 0, .slice none 0 0, .int .i64 0, .slice none 0 0] 30 (0, 0))) ∧ Qz (Below w.heap.size w w'))
   case atStart => exact ⟨0, rfl, ⟨by simp⟩, HN7, HF3, HF4, HF5, B1, B2, HB⟩
   case round =>
    clear HN7 HF3 HF4 HF5 B1 B2 HB
    obtain ⟨i, rfl, HI, HN7, HF3, HF4, HF5, B1, B2, HB⟩ := hrel
    cases gk with
    | zero =>
     have y1 : decide ((i : Int) < (x.f5.length : Int)) = false := decide_eq_false (by have := HI.out; omega)
     have y2 : decide (i < x.f5.length) = false := decide_eq_false (by have := HI.out; omega)
     have hx0 : wr.cell? ⟨g1, 0, none⟩ = some (.int .u64 x.f0.f0) := (bc_ B1.out 0).trans rfl
     have hx1 : wr.cell? ⟨g1, 1, none⟩ = some (.int .i64 x.f0.f1) := (bc_ B1.out 1).trans rfl
     have hx2 : wr.cell? ⟨g1, 2, none⟩ = some (.int .i64 x.f0.f2) := (bc_ B1.out 2).trans rfl
     have hx3 : wr.cell? ⟨g1, 3, none⟩ = some (.slice B3 x.f1.length b3) := (bc_ B1.out 3).trans rfl
     have hx4 : wr.cell? ⟨g1, 4, none⟩ = some (.slice B4 x.f2.length b4) := (bc_ B1.out 4).trans rfl
     have hx5 : wr.cell? ⟨g1, 5, none⟩ = some (.slice B5 x.f3.length b5) := (bc_ B1.out 5).trans rfl
     have hx6 : wr.cell? ⟨g1, 6, none⟩ = some (.int .i64 x.f4) := (bc_ B1.out 6).trans rfl
     have hx7 : wr.cell? ⟨g1, 7, none⟩ = some (.slice B7 x.f5.length b7) := (bc_ B1.out 7).trans rfl
     have hz0 : wr.cell? ⟨g2, 0, none⟩ = some (.int .u64 0) := (bc_ B2.out 0).trans rfl
     have hz1 : wr.cell? ⟨g2, 1, none⟩ = some (.int .i64 0) := (bc_ B2.out 1).trans rfl
     have hz2 : wr.cell? ⟨g2, 2, none⟩ = some (.int .i64 0) := (bc_ B2.out 2).trans rfl
     have hz3 : wr.cell? ⟨g2, 3, none⟩ = some (.slice none 0 0) := (bc_ B2.out 3).trans rfl
     have hz4 : wr.cell? ⟨g2, 4, none⟩ = some (.slice none 0 0) := (bc_ B2.out 4).trans rfl
     have hz5 : wr.cell? ⟨g2, 5, none⟩ = some (.slice none 0 0) := (bc_ B2.out 5).trans rfl
     have hz6 : wr.cell? ⟨g2, 6, none⟩ = some (.int .i64 0) := (bc_ B2.out 6).trans rfl
     have hz7 : wr.cell? ⟨g2, 7, none⟩ = some (.slice none 0 0) := (bc_ B2.out 7).trans rfl
     have hf0 := bf_ B2.out 0
     have hf1 := bf_ B2.out 1
     have hf2 := bf_ B2.out 2
     have hf3 := bf_ B2.out 3
     have hf4 := bf_ B2.out 4
     have hf5 := bf_ B2.out 5
     have hf6 := bf_ B2.out 6
     have hf7 := bf_ B2.out 7
     have hl7 := (Kd.N_reads' HN7.out).2.1
     go_wp2
     rw [show ((((((((wr.setCell ⟨g2, 0, none⟩ (.int .u64 x.f0.f0)).setCell ⟨g2, 1, none⟩ (.int .i64 x.f0.f1)).setCell ⟨g2, 2, none⟩ (.int .i64 x.f0.f2)).setCell ⟨g2, 3, none⟩ (.slice B3 x.f1.length b3)).setCell ⟨g2, 4, none⟩ (.slice B4 x.f2.length b4)).setCell ⟨g2, 5, none⟩ (.slice B5 x.f3.length b5)).setCell ⟨g2, 6, none⟩ (.int .i64 x.f4)).setCell ⟨g2, 7, none⟩ (.slice B7 x.f5.length b7)) = put8 wr g2 (.int .u64 x.f0.f0) (.int .i64 x.f0.f1) (.int .i64 x.f0.f2) (.slice B3 x.f1.length b3) (.slice B4 x.f2.length b4) (.slice B5 x.f3.length b5) (.int .i64 x.f4) (.slice B7 x.f5.length b7) from rfl]
     have hK := kept8 wr g2 (.int .u64 x.f0.f0) (.int .i64 x.f0.f1) (.int .i64 x.f0.f2) (.slice B3 x.f1.length b3) (.slice B4 x.f2.length b4) (.slice B5 x.f3.length b5) (.int .i64 x.f4) (.slice B7 x.f5.length b7)
     refine bodyPost_ret (results_cell_row rfl _ _ g2 30 #[.int .u64 x.f0.f0, .int .i64 x.f0.f1, .int .i64 x.f0.f2, .slice B3 x.f1.length b3, .slice B4 x.f2.length b4, .slice B5 x.f3.length b5, .int .i64 x.f4, .slice B7 x.f5.length b7] (0, 0) _ rfl (blk8 B2.out (.int .u64 x.f0.f0) (.int .i64 x.f0.f1) (.int .i64 x.f0.f2) (.slice B3 x.f1.length b3) (.slice B4 x.f2.length b4) (.slice B5 x.f3.length b5) (.int .i64 x.f4) (.slice B7 x.f5.length b7)) Try.underlying30 rfl (by kernel_rfl)) rfl ?_
     refine ⟨B3, b3, B4, b4, B5, b5, B7, b7, rfl, k30_mk _ x HLB3.out (Kd.F_now (Kd.F_kept HF3.out hK (fun k hk e => hk.1.2 e))) HLB4.out (Kd.F_now (Kd.F_kept HF4.out hK (fun k hk e => hk.1.2 e))) HLB5.out (Kd.F_now (Kd.F_kept HF5.out hK (fun k hk e => hk.1.2 e))) hl7 (Kd.F_now (Kd.F_kept (Kd.N_F HN7.out) hK (fun k hk e => hk.2 e))), below8 HB.out GE2.out (.int .u64 x.f0.f0) (.int .i64 x.f0.f1) (.int .i64 x.f0.f2) (.slice B3 x.f1.length b3) (.slice B4 x.f2.length b4) (.slice B5 x.f3.length b5) (.int .i64 x.f4) (.slice B7 x.f5.length b7)⟩
    | succ k1 =>
     have hil : i < x.f5.length := by have := HI.out; omega
     have HIL := Qz.mk hil
     have y1 : decide ((i : Int) < (x.f5.length : Int)) = true := decide_eq_true (by omega)
     have y2 : decide (i < x.f5.length) = true := decide_eq_true hil
     have p1 : (0 : Int) ≤ (i : Int) := by omega
     have q1 : (i : Int) < (x.f5.length : Int) := by omega
     replace p1 := eq_true p1
     replace q1 := eq_true q1
     obtain ⟨g4, cap, ev, hge, hlt, _, _⟩ := Kd.N_form HN7.out (by omega)
     simp only [Value.slice.injEq, true_and] at ev
     obtain ⟨rfl, rfl⟩ := ev
     have HGE := Qz.mk hge
     clear hge hlt hil
     go_wp2
     have HN7 := Qz.mk (Kd.N_drew HN7.out)
     have HF3 := Qz.mk (Kd.F_drew HF3.out)
     have HF4 := Qz.mk (Kd.F_drew HF4.out)
     have HF5 := Qz.mk (Kd.F_drew HF5.out)
     have B1 := Qz.mk (bkd B1.out)
     have B2 := Qz.mk (bkd B2.out)
     have HB := Qz.mk (bd1 HB.out)
     obtain ⟨cs, hcl, hFK, hcc, hfz⟩ := Kd.N_elem HN7.out z77 (i : Int) (by have := HIL.out; omega) (by have := HIL.out; omega)
     simp only [Int.toNat_natCast] at hFK hcc hfz
     obtain ⟨Ai, ci, ecs, hli, hCi⟩ := k77_open (Kd.FK_now hFK)
     subst ecs
     have HS := Qz.mk (show wr.drew.cell? ⟨g4, i * 4 + 3, none⟩ = some (.slice Ai (x.f5.getD i z77).f3.length ci) from hcc 3 _ rfl)
     have HZ := Qz.mk (show wr.drew.frozen? ⟨g4, i * 4 + 3, none⟩ = false from hfz 3)
     have HCI := Qz.mk hCi
     have HDL := Qz.mk (show (x.f5.getD i z77).f3.length < 17592186044416 from HD7.out _ (by rw [List.getD_eq_getElem?_getD, List.getElem?_eq_getElem HIL.out]; exact List.getElem_mem _))
     have HDL2 := Qz.mk (show (x.f5[i]?.getD z77).f3.length < 17592186044416 from by rw [← List.getD_eq_getElem?_getD]; exact HDL.out)
     clear hcl hFK hcc hfz hli hCi
     have HW := Qz.mk (Below.refl wr.drew.heap.size wr.drew)
     refine start_ (n := 14) (S := fun w' => w'.cell? ⟨g1, 7, none⟩ = some (.slice (some ⟨g4, 0, none⟩) x.f5.length b7) ∧ w'.cell? ⟨g4, i * 4 + 3, none⟩ = some (.slice Ai (x.f5.getD i z77).f3.length ci)) (ds := [13]) (ba_ 14 0) (by kernel_rfl) rfl rfl ⟨bcel HW.out ((bc_ B1.out 7).trans rfl), bcel HW.out HS.out⟩ (fun hHeld => ?_)
     generalize wr.drew = wa at HN7 HF3 HF4 HF5 B1 B2 HB HS HZ HCI HW hHeld ⊢
     refine with_tabW refClone.tab13 refClone.bits13 (fun HT_ HW_ => ?_)
     refine pure_ (i := 0) (N := some 50) (v := ?_) (a' := ?_) (ba_ 14 1) rfl rfl (any_of HT_.out (by kernel_rfl)) (fun _ _ _ h => h) (Or.inl ⟨by rfl, ?_⟩) ?_ ?_
     rotate_left
     ·intro w'
      go_simp
      with_reducible rfl
     rotate_left
     ·simp only [aw_]
      rfl
     refine pure_ (i := 2) (N := some 52) (v := ?_) (a' := ?_) (ba_ 14 5) rfl rfl (any_of HT_.out (by kernel_rfl)) (fun _ _ _ h => h) (Or.inl ⟨by rfl, ?_⟩) ?_ ?_
     rotate_left
     ·intro w'
      go_simp
      with_reducible rfl
     rotate_left
     ·simp only [aw_]
      rfl
     refine pure_ (i := 4) (N := some 54) (v := ?_) (a' := ?_) (ba_ 14 21) rfl rfl (any_of HT_.out (by kernel_rfl)) (fun _ _ _ h => h) (Or.inl ⟨by rfl, ?_⟩) ?_ ?_
     rotate_left
     ·intro w'
      go_simp
      with_reducible rfl
     rotate_left
     ·simp only [aw_]
      rfl
     refine pure_ (i := 6) (N := some 56) (v := ?_) (a' := ?_) (ba_ 14 85) rfl rfl (any_of HT_.out (by kernel_rfl)) (fun _ _ _ h => h) (Or.inl ⟨by rfl, ?_⟩) ?_ ?_
     rotate_left
     ·intro w'
      go_simp
      with_reducible rfl
     rotate_left
     ·simp only [aw_]
      rfl
     refine take_ (i := 1) (N := some 51) (v := ?_) (a' := ?_) (ba_ 14 87) rfl rfl (take_ofW HT_.out HW_.out (by kernel_rfl)) (fun _ _ _ h => h) (Or.inl ⟨by rfl, ?_⟩) hHeld ?_ ?_
     rotate_left
     ·rintro w' ⟨s0, s1⟩
      go_simp
      with_reducible rfl
     rotate_left
     ·simp only [aw_]
      rfl
     refine take_ (i := 5) (N := some 55) (v := ?_) (a' := ?_) (ba_ 14 119) rfl rfl (take_ofW HT_.out HW_.out (by kernel_rfl)) (fun _ _ _ h => h) (Or.inl ⟨by rfl, ?_⟩) hHeld ?_ ?_
     rotate_left
     ·rintro w' ⟨s0, s1⟩
      go_simp
      with_reducible rfl
     rotate_left
     ·simp only [aw_]
      rfl
     refine pure_ (i := 7) (N := some 57) (v := ?_) (a' := ?_) (ba_ 14 247) rfl rfl (any_of HT_.out (by kernel_rfl)) (fun _ _ _ h => h) (Or.inl ⟨by rfl, ?_⟩) ?_ ?_
     rotate_left
     ·intro w'
      go_simp
      with_reducible rfl
     rotate_left
     ·simp only [aw_]
      rfl
     refine pure_ (i := 8) (N := some 58) (v := ?_) (a' := ?_) (ba_ 14 503) rfl rfl (any_of HT_.out (by kernel_rfl)) (fun _ _ _ h => h) (Or.inl ⟨by rfl, ?_⟩) ?_ ?_
     rotate_left
     ·intro w'
      go_simp
      with_reducible rfl
     rotate_left
     ·simp only [aw_]
      rfl
     refine take_ (i := 9) (N := some 59) (v := ?_) (a' := ?_) (ba_ 14 1015) rfl rfl (take_ofW HT_.out HW_.out (by kernel_rfl)) (fun _ _ _ h => h) (Or.inl ⟨by rfl, ?_⟩) hHeld ?_ ?_
     rotate_left
     ·rintro w' ⟨s0, s1⟩
      go_simp
      with_reducible rfl
     rotate_left
     ·simp only [aw_]
      rfl
     refine one_ (i := 3) (N := some 53) (ba_ 14 1023) rfl rfl (one_of HT_.out (by kernel_rfl)) (by decide) (fun K hK => ?_)
     refine Kd.R_lit_step (Kd.int .u64) (w0 := wa) wa.heap.size 22 (by rfl) (N := 53) rfl (xs := ([] : List Int)) (inner := []) (ok := fun k => wa.heap.size ≤ k) (okp := fun _ => False) ?hr (Reps.none _ _) (fun _ hk => hk.elim) (Nat.le_refl _) HW.out HW.out.size (by simp) ?_
     case hr => first | (go_simp; done) | (go_simp; rfl)
     intro vl wl hol hbl hgl hnl
     have HOL := Qz.mk hol
     have HW := Qz.mk hbl
     clear hol hbl hgl hnl
     refine hK.out _ _ ⟨bcel HW.out ((bc_ B1.out 7).trans rfl), bcel HW.out HS.out⟩ (fun hHeld => ?_)
     clear hK K
     refine norm_ (a' := ?_) ?_ ?_
     rotate_left
     ·show Act.put _ (some 53) _ = _
      simp only [aw_]
      rfl
     refine one_ (i := 10) (N := some 60) (ba_ 14 2047) rfl rfl (one_of HT_.out (by kernel_rfl)) (by decide) (fun K hK => ?_)
     refine Kd.R_append_rows_step (Kd.int .u64) (w0 := wa) wa.heap.size (by rfl) (.tmp 53) (.tmp 59) 51 22 (.int .u64 0) 8 rfl Try.underlying51 info22 rfl (by decide) (by omega) vl [] (x.f5.getD i z77).f3 _ _ _ (fun k => wa.heap.size ≤ k) (fun _ => False) rfl rfl HOL.out (Kd.C_below HCI.out HW.out) (fun _ _ h => h) (fun _ h => h.elim) (fun k hk => Nat.le_trans HW.out.size hk) HW.out HW.out.size (by have := HDL.out; have := HDL2.out; simp only [List.length_nil]; omega) ?_
     intro vd wd hod hbd hgd hnd
     rw [List.nil_append] at hod
     obtain ⟨Ad, cd, rfl⟩ := Kd.R_slice hod
     have HOD := Qz.mk hod
     have HW := Qz.mk hbd
     clear hod hbd hgd hnd
     refine hK.out _ _ ⟨bcel HW.out ((bc_ B1.out 7).trans rfl), bcel HW.out HS.out⟩ (fun hHeld => ?_)
     clear hK K
     refine norm_ (a' := ?_) ?_ ?_
     rotate_left
     ·show Act.put _ (some 60) _ = _
      simp only [aw_]
      rfl
     refine pure_ (i := 11) (N := some 61) (v := ?_) (a' := ?_) (ba_ 14 4095) rfl rfl (any_of HT_.out (by kernel_rfl)) (fun _ _ _ h => h) (Or.inl ⟨by rfl, ?_⟩) ?_ ?_
     rotate_left
     ·intro w'
      go_simp
      with_reducible rfl
     rotate_left
     ·simp only [aw_]
      rfl
     refine pure_ (i := 12) (N := some 62) (v := ?_) (a' := ?_) (ba_ 14 8191) rfl rfl (any_of HT_.out (by kernel_rfl)) (fun _ _ _ h => h) (Or.inl ⟨by rfl, ?_⟩) ?_ ?_
     rotate_left
     ·intro w'
      go_simp
      with_reducible rfl
     rotate_left
     ·simp only [aw_]
      rfl
     refine last_ (i := 13) (N := none) (ba_ 14 16383) rfl rfl (one_of HT_.out (by kernel_rfl)) (by decide) (fun K hK => ?_)
     have hcell := bcel HW.out HS.out
     have hfroz := (HW.out.frozen (p := ⟨g4, i * 4 + 3, none⟩) (World.block_lt_of_cell? wa _ HS.out)).trans HZ.out
     refine skip_ (w1 := ?_) (by rfl) rfl ?_ ?_
     rotate_left
     ·go_simp
      rfl
     refine hK.out _ _ ?_
     clear hK K
     refine done_ (done_of HT_.out (by kernel_rfl)) ?_
     clear hHeld hcell hfroz
     have hrd := Kd.R_reads' HOD.out
     have hg1 := blt B1.out
     have hg2 := blt B2.out
     have hg4 := World.block_lt_of_cell? wa _ HS.out
     have HKS := Qz.mk (show Kept wd (wd.setCell ⟨g4, i * 4 + 3, none⟩ (.slice Ad (x.f5.getD i z77).f3.length cd)) (fun k => k = g4) from Kept.setCell (S := fun k => k = g4) (p := ⟨g4, i * 4 + 3, none⟩) (Kept.refl _ _) (.inl rfl) _)
     have m0 := Qz.mk (row_put77 (Kd.N_below HN7.out HW.out) HIL.out hrd.2.1 (Kd.F_mono (Kd.R_F HOD.out) (fun k hk => ⟨⟨fun e => by have h1 : wa.heap.size ≤ k := hk; have h2 : g1 < wa.heap.size := hg1; omega, fun e => by have h1 : wa.heap.size ≤ k := hk; have h2 : g2 < wa.heap.size := hg2; omega⟩, fun e => by have h1 : wa.heap.size ≤ k := hk; have h2 : g4 < wa.heap.size := hg4; omega⟩)))
     have m1 := Qz.mk (Kd.F_kept (Kd.F_step HF3.out (fun k hk hlt => HW.out.block k hlt)) HKS.out (fun k hk e => by have h1 := hk.2; have h2 := HGE.out; omega))
     have m2 := Qz.mk (Kd.F_kept (Kd.F_step HF4.out (fun k hk hlt => HW.out.block k hlt)) HKS.out (fun k hk e => by have h1 := hk.2; have h2 := HGE.out; omega))
     have m3 := Qz.mk (Kd.F_kept (Kd.F_step HF5.out (fun k hk hlt => HW.out.block k hlt)) HKS.out (fun k hk e => by have h1 := hk.2; have h2 := HGE.out; omega))
     have m4 := Qz.mk (bkf (p := ⟨g4, i * 4 + 3, none⟩) (bkb B1.out HW.out) (fun e => by have h2 := HGE.out; have h3 := HG1.out; have e2 : g1 = g4 := e; omega) (.slice Ad (x.f5.getD i z77).f3.length cd))
     have m5 := Qz.mk (bkf (p := ⟨g4, i * 4 + 3, none⟩) (bkb B2.out HW.out) (fun e => by have h2 := HGE.out; have h3 := HG2.out; have e2 : g2 = g4 := e; omega) (.slice Ad (x.f5.getD i z77).f3.length cd))
     have m6 := Qz.mk (show Below w.heap.size w (wd.setCell ⟨g4, i * 4 + 3, none⟩ (.slice Ad (x.f5.getD i z77).f3.length cd)) from bset (HB.out.trans (HW.out.mono HB.out.size)) (Nat.le_trans HW0.out HGE.out))
     clear hrd hg1 hg2 hg4
     go_wp2
     go_roundg k1
     case measure => exact Nat.lt_succ_self _
     case rel => exact ⟨i + 1, by simp; unfold wrap64; have := HIL.out; have := HL7.out; omega, ⟨by have := HI.out; omega⟩, m0, m1, m2, m3, m4, m5, m6⟩
  | succ k1 =>
   have hil : i < x.f2.length := by have := HI.out; omega
   have HIL := Qz.mk hil
   have y1 : decide ((i : Int) < (x.f2.length : Int)) = true := decide_eq_true (by omega)
   have y2 : decide (i < x.f2.length) = true := decide_eq_true hil
   have p1 : (0 : Int) ≤ (i : Int) := by omega
   have q1 : (i : Int) < (x.f2.length : Int) := by omega
   replace p1 := eq_true p1
   replace q1 := eq_true q1
   obtain ⟨g4, cap, ev, hge, hlt, _, _⟩ := Kd.N_form HN2.out (by omega)
   simp only [Value.slice.injEq, true_and] at ev
   obtain ⟨rfl, rfl⟩ := ev
   have HGE := Qz.mk hge
   clear hge hlt hil
   go_wp2
   have HN2 := Qz.mk (Kd.N_drew HN2.out)
   have HF3 := Qz.mk (Kd.F_drew HF3.out)
   have B1 := Qz.mk (bkd B1.out)
   have B2 := Qz.mk (bkd B2.out)
   have HB := Qz.mk (bd1 HB.out)
   obtain ⟨cs, hcl, hFK, hcc, hfz⟩ := Kd.N_elem HN2.out z72 (i : Int) (by have := HIL.out; omega) (by have := HIL.out; omega)
   simp only [Int.toNat_natCast] at hFK hcc hfz
   obtain ⟨Ai, ci, ecs, hli, hCi⟩ := k72_open (Kd.FK_now hFK)
   subst ecs
   have HS := Qz.mk (show wr.drew.cell? ⟨g4, i * 5 + 4, none⟩ = some (.slice Ai (x.f2.getD i z72).f4.length ci) from hcc 4 _ rfl)
   have HZ := Qz.mk (show wr.drew.frozen? ⟨g4, i * 5 + 4, none⟩ = false from hfz 4)
   have HCI := Qz.mk hCi
   have HDL := Qz.mk (show (x.f2.getD i z72).f4.length < 17592186044416 from HD4.out _ (by rw [List.getD_eq_getElem?_getD, List.getElem?_eq_getElem HIL.out]; exact List.getElem_mem _))
   have HDL2 := Qz.mk (show (x.f2[i]?.getD z72).f4.length < 17592186044416 from by rw [← List.getD_eq_getElem?_getD]; exact HDL.out)
   clear hcl hFK hcc hfz hli hCi
   have HW := Qz.mk (Below.refl wr.drew.heap.size wr.drew)
   refine start_ (n := 14) (S := fun w' => w'.cell? ⟨g1, 4, none⟩ = some (.slice (some ⟨g4, 0, none⟩) x.f2.length b4) ∧ w'.cell? ⟨g4, i * 5 + 4, none⟩ = some (.slice Ai (x.f2.getD i z72).f4.length ci)) (ds := [13]) (ba_ 14 0) (by kernel_rfl) rfl rfl ⟨bcel HW.out ((bc_ B1.out 4).trans rfl), bcel HW.out HS.out⟩ (fun hHeld => ?_)
   generalize wr.drew = wa at HN2 HF3 B1 B2 HB HS HZ HCI HW hHeld ⊢
   refine with_tabW refClone.tab6 refClone.bits6 (fun HT_ HW_ => ?_)
   refine pure_ (i := 0) (N := some 21) (v := ?_) (a' := ?_) (ba_ 14 1) rfl rfl (any_of HT_.out (by kernel_rfl)) (fun _ _ _ h => h) (Or.inl ⟨by rfl, ?_⟩) ?_ ?_
   rotate_left
   ·intro w'
    go_simp
    with_reducible rfl
   rotate_left
   ·simp only [aw_]
    rfl
   refine pure_ (i := 2) (N := some 23) (v := ?_) (a' := ?_) (ba_ 14 5) rfl rfl (any_of HT_.out (by kernel_rfl)) (fun _ _ _ h => h) (Or.inl ⟨by rfl, ?_⟩) ?_ ?_
   rotate_left
   ·intro w'
    go_simp
    with_reducible rfl
   rotate_left
   ·simp only [aw_]
    rfl
   refine pure_ (i := 4) (N := some 25) (v := ?_) (a' := ?_) (ba_ 14 21) rfl rfl (any_of HT_.out (by kernel_rfl)) (fun _ _ _ h => h) (Or.inl ⟨by rfl, ?_⟩) ?_ ?_
   rotate_left
   ·intro w'
    go_simp
    with_reducible rfl
   rotate_left
   ·simp only [aw_]
    rfl
   refine pure_ (i := 6) (N := some 27) (v := ?_) (a' := ?_) (ba_ 14 85) rfl rfl (any_of HT_.out (by kernel_rfl)) (fun _ _ _ h => h) (Or.inl ⟨by rfl, ?_⟩) ?_ ?_
   rotate_left
   ·intro w'
    go_simp
    with_reducible rfl
   rotate_left
   ·simp only [aw_]
    rfl
   refine take_ (i := 1) (N := some 22) (v := ?_) (a' := ?_) (ba_ 14 87) rfl rfl (take_ofW HT_.out HW_.out (by kernel_rfl)) (fun _ _ _ h => h) (Or.inl ⟨by rfl, ?_⟩) hHeld ?_ ?_
   rotate_left
   ·rintro w' ⟨s0, s1⟩
    go_simp
    with_reducible rfl
   rotate_left
   ·simp only [aw_]
    rfl
   refine take_ (i := 5) (N := some 26) (v := ?_) (a' := ?_) (ba_ 14 119) rfl rfl (take_ofW HT_.out HW_.out (by kernel_rfl)) (fun _ _ _ h => h) (Or.inl ⟨by rfl, ?_⟩) hHeld ?_ ?_
   rotate_left
   ·rintro w' ⟨s0, s1⟩
    go_simp
    with_reducible rfl
   rotate_left
   ·simp only [aw_]
    rfl
   refine pure_ (i := 7) (N := some 28) (v := ?_) (a' := ?_) (ba_ 14 247) rfl rfl (any_of HT_.out (by kernel_rfl)) (fun _ _ _ h => h) (Or.inl ⟨by rfl, ?_⟩) ?_ ?_
   rotate_left
   ·intro w'
    go_simp
    with_reducible rfl
   rotate_left
   ·simp only [aw_]
    rfl
   refine pure_ (i := 8) (N := some 29) (v := ?_) (a' := ?_) (ba_ 14 503) rfl rfl (any_of HT_.out (by kernel_rfl)) (fun _ _ _ h => h) (Or.inl ⟨by rfl, ?_⟩) ?_ ?_
   rotate_left
   ·intro w'
    go_simp
    with_reducible rfl
   rotate_left
   ·simp only [aw_]
    rfl
   refine take_ (i := 9) (N := some 30) (v := ?_) (a' := ?_) (ba_ 14 1015) rfl rfl (take_ofW HT_.out HW_.out (by kernel_rfl)) (fun _ _ _ h => h) (Or.inl ⟨by rfl, ?_⟩) hHeld ?_ ?_
   rotate_left
   ·rintro w' ⟨s0, s1⟩
    go_simp
    with_reducible rfl
   rotate_left
   ·simp only [aw_]
    rfl
   refine one_ (i := 3) (N := some 24) (ba_ 14 1023) rfl rfl (one_of HT_.out (by kernel_rfl)) (by decide) (fun K hK => ?_)
   refine Kd.R_lit_step (Kd.int .u64) (w0 := wa) wa.heap.size 22 (by rfl) (N := 24) rfl (xs := ([] : List Int)) (inner := []) (ok := fun k => wa.heap.size ≤ k) (okp := fun _ => False) ?hr (Reps.none _ _) (fun _ hk => hk.elim) (Nat.le_refl _) HW.out HW.out.size (by simp) ?_
   case hr => first | (go_simp; done) | (go_simp; rfl)
   intro vl wl hol hbl hgl hnl
   have HOL := Qz.mk hol
   have HW := Qz.mk hbl
   clear hol hbl hgl hnl
   refine hK.out _ _ ⟨bcel HW.out ((bc_ B1.out 4).trans rfl), bcel HW.out HS.out⟩ (fun hHeld => ?_)
   clear hK K
   refine norm_ (a' := ?_) ?_ ?_
   rotate_left
   ·show Act.put _ (some 24) _ = _
    simp only [aw_]
    rfl
   refine one_ (i := 10) (N := some 31) (ba_ 14 2047) rfl rfl (one_of HT_.out (by kernel_rfl)) (by decide) (fun K hK => ?_)
   refine Kd.R_append_rows_step (Kd.int .u64) (w0 := wa) wa.heap.size (by rfl) (.tmp 24) (.tmp 30) 51 22 (.int .u64 0) 8 rfl Try.underlying51 info22 rfl (by decide) (by omega) vl [] (x.f2.getD i z72).f4 _ _ _ (fun k => wa.heap.size ≤ k) (fun _ => False) rfl rfl HOL.out (Kd.C_below HCI.out HW.out) (fun _ _ h => h) (fun _ h => h.elim) (fun k hk => Nat.le_trans HW.out.size hk) HW.out HW.out.size (by have := HDL.out; have := HDL2.out; simp only [List.length_nil]; omega) ?_
   intro vd wd hod hbd hgd hnd
   rw [List.nil_append] at hod
   obtain ⟨Ad, cd, rfl⟩ := Kd.R_slice hod
   have HOD := Qz.mk hod
   have HW := Qz.mk hbd
   clear hod hbd hgd hnd
   refine hK.out _ _ ⟨bcel HW.out ((bc_ B1.out 4).trans rfl), bcel HW.out HS.out⟩ (fun hHeld => ?_)
   clear hK K
   refine norm_ (a' := ?_) ?_ ?_
   rotate_left
   ·show Act.put _ (some 31) _ = _
    simp only [aw_]
    rfl
   refine pure_ (i := 11) (N := some 32) (v := ?_) (a' := ?_) (ba_ 14 4095) rfl rfl (any_of HT_.out (by kernel_rfl)) (fun _ _ _ h => h) (Or.inl ⟨by rfl, ?_⟩) ?_ ?_
   rotate_left
   ·intro w'
    go_simp
    with_reducible rfl
   rotate_left
   ·simp only [aw_]
    rfl
   refine pure_ (i := 12) (N := some 33) (v := ?_) (a' := ?_) (ba_ 14 8191) rfl rfl (any_of HT_.out (by kernel_rfl)) (fun _ _ _ h => h) (Or.inl ⟨by rfl, ?_⟩) ?_ ?_
   rotate_left
   ·intro w'
    go_simp
    with_reducible rfl
   rotate_left
   ·simp only [aw_]
    rfl
   refine last_ (i := 13) (N := none) (ba_ 14 16383) rfl rfl (one_of HT_.out (by kernel_rfl)) (by decide) (fun K hK => ?_)
   have hcell := bcel HW.out HS.out
   have hfroz := (HW.out.frozen (p := ⟨g4, i * 5 + 4, none⟩) (World.block_lt_of_cell? wa _ HS.out)).trans HZ.out
   refine skip_ (w1 := ?_) (by rfl) rfl ?_ ?_
   rotate_left
   ·go_simp
    rfl
   refine hK.out _ _ ?_
   clear hK K
   refine done_ (done_of HT_.out (by kernel_rfl)) ?_
   clear hHeld hcell hfroz
   have hrd := Kd.R_reads' HOD.out
   have hg1 := blt B1.out
   have hg2 := blt B2.out
   have hg4 := World.block_lt_of_cell? wa _ HS.out
   have HKS := Qz.mk (show Kept wd (wd.setCell ⟨g4, i * 5 + 4, none⟩ (.slice Ad (x.f2.getD i z72).f4.length cd)) (fun k => k = g4) from Kept.setCell (S := fun k => k = g4) (p := ⟨g4, i * 5 + 4, none⟩) (Kept.refl _ _) (.inl rfl) _)
   have m0 := Qz.mk (row_put72 (Kd.N_below HN2.out HW.out) HIL.out hrd.2.1 (Kd.F_mono (Kd.R_F HOD.out) (fun k hk => ⟨⟨fun e => by have h1 : wa.heap.size ≤ k := hk; have h2 : g1 < wa.heap.size := hg1; omega, fun e => by have h1 : wa.heap.size ≤ k := hk; have h2 : g2 < wa.heap.size := hg2; omega⟩, fun e => by have h1 : wa.heap.size ≤ k := hk; have h2 : g4 < wa.heap.size := hg4; omega⟩)))
   have m1 := Qz.mk (Kd.F_kept (Kd.F_step HF3.out (fun k hk hlt => HW.out.block k hlt)) HKS.out (fun k hk e => by have h1 := hk.2; have h2 := HGE.out; omega))
   have m2 := Qz.mk (bkf (p := ⟨g4, i * 5 + 4, none⟩) (bkb B1.out HW.out) (fun e => by have h2 := HGE.out; have h3 := HG1.out; have e2 : g1 = g4 := e; omega) (.slice Ad (x.f2.getD i z72).f4.length cd))
   have m3 := Qz.mk (bkf (p := ⟨g4, i * 5 + 4, none⟩) (bkb B2.out HW.out) (fun e => by have h2 := HGE.out; have h3 := HG2.out; have e2 : g2 = g4 := e; omega) (.slice Ad (x.f2.getD i z72).f4.length cd))
   have m4 := Qz.mk (show Below w.heap.size w (wd.setCell ⟨g4, i * 5 + 4, none⟩ (.slice Ad (x.f2.getD i z72).f4.length cd)) from bset (HB.out.trans (HW.out.mono HB.out.size)) (Nat.le_trans HW0.out HGE.out))
   clear hrd hg1 hg2 hg4
   go_wp2
   go_roundg k1
   case measure => exact Nat.lt_succ_self _
   case rel => exact ⟨i + 1, by simp; unfold wrap64; have := HIL.out; have := HL4.out; omega, ⟨by have := HI.out; omega⟩, m0, m1, m2, m3, m4⟩
end
end Go.Proofs.Ytkaikgbcnmfppaa.Nb
