/- juntoref17.Drawn walked. Made by mk_drawn.py. -/
import Derived.Test.YtkaikgbcnmfppaaNbNetClone
import Derived.Test.YtkaikgbcnmfppaaNbSwapB
import Derived.Test.YtkaikgbcnmfppaaNbFRef1Draw
import Derived.BigRegion
namespace Go.Proofs.Ytkaikgbcnmfppaa.Nb
open Go Go.RowKit Go.Proofs.YtkaikgbcnmfppaaW.PrintWords Go.Proofs.YtkaikgbcnmfppaaW.PrintLast Go.Proofs.YtkaikgbcnmfppaaW.PrintMore
attribute [local go_sem] max2_int min2_int max_two min_two max_three min_three max_four min_four
set_option linter.unusedVariables false
set_option linter.unusedSimpArgs false
noncomputable section
/-- What Drawn hands back. -/
def DrawnPost (W : World) (l : List Int) (x : S30) (e : Ending) (w' : World) : Prop :=
 ∃ G d A3 c3 A4 c4 A5 c5 A7 c7, e = .returned (.tuple #[.slice G l.length d, .agg (wv x A3 c3 A4 c4 A5 c5 A7 c7)]) ∧ (Kd.int .u64).C w' G l.length l ∧ l.length ≤ d ∧ k30.K w' x (wv x A3 c3 A4 c4 A5 c5 A7 c7).toList ∧ Below W.heap.size W w'
def refDrawn.T1 : Bool × List (List Nat × List Nat) := (true, [([], []), ([0], [0]), ([1], [1]), ([], []), ([3], [3]), ([], []), ([5], [5]), ([4, 6], [4, 6]), ([7], [7]), ([], []), ([2, 8, 9], [2, 8, 9]), ([10], [10]), ([11], [11]), ([11], [11]), ([12, 10, 0, 1, 2, 3, 4, 5, 6, 7, 8, 9, 10, 11, 12], [12]), ([13, 14, 0, 1, 2, 3, 4, 5, 6, 7, 8, 9, 10, 11, 12, 13, 14], [13])])
def refDrawn.B1 : List Nat := [0, 1, 3, 0, 8, 0, 32, 120, 248, 0, 1023, 2047, 4095, 4095, 8191, 32767]
theorem refDrawn.tab1 : rtab .any (opsOf Try.f39 1) = refDrawn.T1 := by kernel_rfl
theorem refDrawn.bits1 : waitsOk refDrawn.T1.2 refDrawn.B1 = true := by kernel_rfl
def refDrawn.T5 : Bool × List (List Nat × List Nat) := (true, [([], []), ([], []), ([0, 0], [0]), ([1, 2, 0, 1, 2], [1])])
def refDrawn.B5 : List Nat := [0, 0, 1, 7]
theorem refDrawn.tab5 : rtab .any (opsOf Try.f39 5) = refDrawn.T5 := by kernel_rfl
theorem refDrawn.bits5 : waitsOk refDrawn.T5.2 refDrawn.B5 = true := by kernel_rfl
set_option maxHeartbeats 8000000 in
set_option maxRecDepth 100000 in
theorem drawn_ok (k : Nat) (x : S30) (A3 : Option Addr) (c3 : Nat) (A4 : Option Addr) (c4 : Nat) (A5 : Option Addr) (c5 : Nat) (A7 : Option Addr) (c7 : Nat) (n : Int) (w : World) (hx : k30.K w x (wv x A3 c3 A4 c4 A5 c5 A7 c7).toList) (j : Nat) (hj : j < x.f3.length) (hn3 : x.f3.length ≤ 1000) (l rest : List Int) (hd : juntoref01_Draw.f k x.f0.f0 (x.f3.getD j []) n = some (l, rest)) :
  Calls Try.prog 39 #[.agg (wv x A3 c3 A4 c4 A5 c5 A7 c7), .int .i64 ((j : Int) + 1), .int .i64 n] w (DrawnPost w l (⟨x.f0, x.f1, x.f2, x.f3.set j rest, x.f4, x.f5⟩ : S30)) := by
 have hu30 := Try.underlying30
 have hu24 := Try.underlying24
 have HX := Aside0.mk (XF.of hx)
 have HJ := Aside0.mk hj
 have HN3 := Aside0.mk hn3
 obtain ⟨dd, hdd⟩ : ∃ d, d = x.f3.getD j [] := ⟨_, rfl⟩
 rw [← hdd] at hd
 have HDD := Aside0.mk hdd
 clear hdd
 have HD := Aside0.mk hd
 have hw1 : wrap64 ((j : Int) + 1 - 1) = (j : Int) := by unfold wrap64; omega
 have hw2 : wrap64 (j : Int) = (j : Int) := by unfold wrap64; omega
 have p1 : (0 : Int) ≤ (j : Int) := by omega
 have q1 : (j : Int) < (x.f3.length : Int) := by omega
 have q2 : j < x.f3.length := by omega
 replace p1 := eq_true p1
 replace q1 := eq_true q1
 replace q2 := eq_true q2
 clear hj hn3 hd hx
 go_enter Try.func39, Try.ntmps39
 go_upto_region 1 with (first
   | ((with_reducible refine gate_dst (N := 3) rfl ?_); refine box_event ?hg (N := 3) ?hd (cs := wv x A3 c3 A4 c4 A5 c5 A7 c7) (t := 30) ?hr ?_; (case hd => rfl); (case hg => rfl); (case hr => first | (go_simp; done) | (go_simp; rfl)); intro g3 hg3 w3 hbox hb3; have Q3 := Aside0.mk hbox; have HB := Aside0.mk hb3; have GE3 := Aside0.mk (show w.heap.size ≤ g3 from Nat.le_of_eq hg3.symm); clear hg3 hbox hb3)
   | ((with_reducible refine gate_dst (N := 7) rfl ?_); refine box_event ?hg (N := 7) ?hd (cs := #[.int .u64 0, .int .i64 0, .int .i64 0, .slice none 0 0, .slice none 0 0, .slice none 0 0, .int .i64 0, .slice none 0 0]) (t := 30) ?hr ?_; (case hd => rfl); (case hg => rfl); (case hr => first | (go_simp; done) | (go_simp; rfl)); intro g7 hg7 w7 hbox hb7; have Q7 := Aside0.mk hbox; have NE := Aside0.mk (show g3 ≠ g7 from by rw [hg7]; exact Nat.ne_of_lt (blk_lt Q3.out)); have GE7 := Aside0.mk (show w.heap.size ≤ g7 from by rw [hg7]; exact HB.out.size); have Q3 := Aside0.mk (blk_below Q3.out hb7); have HB := Aside0.mk (HB.out.trans (hb7.mono HB.out.size)); clear hg7 hbox hb7; have hx0 : w7.cell? ⟨g3, 0, none⟩ = some (.int .u64 x.f0.f0) := (blk_cell Q3.out 0).trans rfl; have hx1 : w7.cell? ⟨g3, 1, none⟩ = some (.int .i64 x.f0.f1) := (blk_cell Q3.out 1).trans rfl; have hx2 : w7.cell? ⟨g3, 2, none⟩ = some (.int .i64 x.f0.f2) := (blk_cell Q3.out 2).trans rfl; have hx3 : w7.cell? ⟨g3, 3, none⟩ = some (.slice A3 x.f1.length c3) := (blk_cell Q3.out 3).trans rfl; have hx4 : w7.cell? ⟨g3, 4, none⟩ = some (.slice A4 x.f2.length c4) := (blk_cell Q3.out 4).trans rfl; have hx5 : w7.cell? ⟨g3, 5, none⟩ = some (.slice A5 x.f3.length c5) := (blk_cell Q3.out 5).trans rfl; have hx6 : w7.cell? ⟨g3, 6, none⟩ = some (.int .i64 x.f4) := (blk_cell Q3.out 6).trans rfl; have hx7 : w7.cell? ⟨g3, 7, none⟩ = some (.slice A7 x.f5.length c7) := (blk_cell Q3.out 7).trans rfl))
 clear hx0 hx1 hx2 hx3 hx4 hx5 hx6 hx7
 obtain ⟨ad, Ai, ci, e5, hcell, hli, hFi⟩ := F_row_at (HX.out.below HB.out).r5 HJ.out
 subst e5
 rw [← HDD.out] at hcell hli hFi
 have T3 := Aside0.mk (show w7.drew.cell? (ad.add j) = some (.slice Ai dd.length ci) from hcell)
 have HLI := Aside0.mk hli
 have HFI := Aside0.mk (Kd.F_drew hFi)
 clear hcell hli hFi
 have Q3 := Aside0.mk (blk_drew Q3.out)
 have Q7 := Aside0.mk (blk_drew Q7.out)
 have HB := Aside0.mk (below_drew1 HB.out)
 have HW := Aside0.mk (Below.refl w7.drew.heap.size w7.drew)
 refine start_ (n := 16) (S := fun w' => w'.cell? ⟨g3, 0, none⟩ = some (.int .u64 x.f0.f0) ∧ w'.cell? ⟨g3, 5, none⟩ = some (.slice (some ad) x.f3.length c5) ∧ w'.cell? (ad.add j) = some (.slice Ai dd.length ci)) (ds := []) (ba_ 16 0) (by kernel_rfl) rfl rfl ⟨below_cell HW.out ((blk_cell Q3.out 0).trans rfl), below_cell HW.out ((blk_cell Q3.out 5).trans rfl), below_cell HW.out T3.out⟩ (fun hHeld => ?_)
 generalize w7.drew = wa at Q3 Q7 HB HW T3 HFI hHeld ⊢
 refine with_tabW refDrawn.tab1 refDrawn.bits1 (fun HT_ HW_ => ?_)
 refine pure_ (i := 0) (N := some 12) (v := ?_) (a' := ?_) (ba_ 16 1) rfl rfl (any_of HT_.out (by kernel_rfl)) (fun _ _ _ h => h) (Or.inl ⟨by rfl, ?_⟩) ?_ ?_
 rotate_left
 ·intro w'
  go_simp
  with_reducible rfl
 rotate_left
 ·simp only [Act.put, List.setIfInBounds_toArray, List.set_cons_zero, List.set_cons_succ, i64_w, i32_w]
  rfl
 refine pure_ (i := 1) (N := some 13) (v := ?_) (a' := ?_) (ba_ 16 3) rfl rfl (any_of HT_.out (by kernel_rfl)) (fun _ _ _ h => h) (Or.inl ⟨by rfl, ?_⟩) ?_ ?_
 rotate_left
 ·intro w'
  go_simp
  with_reducible rfl
 rotate_left
 ·simp only [Act.put, List.setIfInBounds_toArray, List.set_cons_zero, List.set_cons_succ, i64_w, i32_w]
  rfl
 refine pure_ (i := 3) (N := some 15) (v := ?_) (a' := ?_) (ba_ 16 11) rfl rfl (any_of HT_.out (by kernel_rfl)) (fun _ _ _ h => h) (Or.inl ⟨by rfl, ?_⟩) ?_ ?_
 rotate_left
 ·intro w'
  go_simp
  with_reducible rfl
 rotate_left
 ·simp only [Act.put, List.setIfInBounds_toArray, List.set_cons_zero, List.set_cons_succ, i64_w, i32_w]
  rfl
 refine pure_ (i := 5) (N := some 17) (v := ?_) (a' := ?_) (ba_ 16 43) rfl rfl (any_of HT_.out (by kernel_rfl)) (fun _ _ _ h => h) (Or.inl ⟨by rfl, ?_⟩) ?_ ?_
 rotate_left
 ·intro w'
  go_simp
  with_reducible rfl
 rotate_left
 ·simp only [Act.put, List.setIfInBounds_toArray, List.set_cons_zero, List.set_cons_succ, i64_w, i32_w]
  rfl
 refine take_ (i := 2) (N := some 14) (v := ?_) (a' := ?_) (ba_ 16 47) rfl rfl (take_ofW HT_.out HW_.out (by kernel_rfl)) (fun _ _ _ h => h) (Or.inl ⟨by rfl, ?_⟩) hHeld ?_ ?_
 rotate_left
 ·rintro w' ⟨s0, s1, s2⟩
  go_simp
  with_reducible rfl
 rotate_left
 ·simp only [Act.put, List.setIfInBounds_toArray, List.set_cons_zero, List.set_cons_succ, i64_w, i32_w]
  rfl
 refine take_ (i := 4) (N := some 16) (v := ?_) (a' := ?_) (ba_ 16 63) rfl rfl (take_ofW HT_.out HW_.out (by kernel_rfl)) (fun _ _ _ h => h) (Or.inl ⟨by rfl, ?_⟩) hHeld ?_ ?_
 rotate_left
 ·rintro w' ⟨s0, s1, s2⟩
  go_simp
  with_reducible rfl
 rotate_left
 ·simp only [Act.put, List.setIfInBounds_toArray, List.set_cons_zero, List.set_cons_succ, i64_w, i32_w]
  rfl
 refine pure_ (i := 6) (N := some 18) (v := ?_) (a' := ?_) (ba_ 16 127) rfl rfl (any_of HT_.out (by kernel_rfl)) (fun _ _ _ h => h) (Or.inl ⟨by rfl, ?_⟩) ?_ ?_
 rotate_left
 ·intro w'
  go_simp
  with_reducible rfl
 rotate_left
 ·simp only [Act.put, List.setIfInBounds_toArray, List.set_cons_zero, List.set_cons_succ, i64_w, i32_w]
  rfl
 refine pure_ (i := 7) (N := some 19) (v := ?_) (a' := ?_) (ba_ 16 255) rfl rfl (any_of HT_.out (by kernel_rfl)) (fun _ _ _ h => h) (Or.inl ⟨by rfl, ?_⟩) ?_ ?_
 rotate_left
 ·intro w'
  go_simp
  with_reducible rfl
 rotate_left
 ·simp only [Act.put, List.setIfInBounds_toArray, List.set_cons_zero, List.set_cons_succ, i64_w, i32_w]
  rfl
 refine take_ (i := 8) (N := some 20) (v := ?_) (a' := ?_) (ba_ 16 511) rfl rfl (take_ofW HT_.out HW_.out (by kernel_rfl)) (fun _ _ _ h => h) (Or.inl ⟨by rfl, ?_⟩) hHeld ?_ ?_
 rotate_left
 ·rintro w' ⟨s0, s1, s2⟩
  go_simp
  with_reducible rfl
 rotate_left
 ·simp only [Act.put, List.setIfInBounds_toArray, List.set_cons_zero, List.set_cons_succ, i64_w, i32_w]
  rfl
 refine pure_ (i := 9) (N := some 21) (v := ?_) (a' := ?_) (ba_ 16 1023) rfl rfl (any_of HT_.out (by kernel_rfl)) (fun _ _ _ h => h) (Or.inl ⟨by rfl, ?_⟩) ?_ ?_
 rotate_left
 ·intro w'
  go_simp
  with_reducible rfl
 rotate_left
 ·simp only [Act.put, List.setIfInBounds_toArray, List.set_cons_zero, List.set_cons_succ, i64_w, i32_w]
  rfl
 refine one_ (i := 10) (N := some 22) (ba_ 16 2047) rfl rfl (one_of HT_.out (by kernel_rfl)) (by decide) (fun K hK => ?_)
 refine goes_ Try.func57 (by kernel_rfl) rfl #[.int .u64 x.f0.f0, .slice Ai dd.length ci, .int .i64 n] (by rfl) rfl rfl (by (try simp only [List.map_toArray, List.map_cons, List.map_nil]); first | done | rfl | (simp only [List.length_drop, List.length_take]; rfl)) ?_
 refine (juntoref01_Draw.calls k x.f0.f0 Ai ci dd n l rest wa (Kd.F_now HFI.out) HLI.out HD.out).mono ?_
 rintro e wd ⟨v0, v1, rfl, hR0, hR1, hbd⟩
 refine ⟨_, rfl, ?_⟩
 obtain ⟨G, d, rfl⟩ := Kd.R_slice hR0
 obtain ⟨R, rc, rfl⟩ := Kd.R_slice hR1
 have HG := Aside0.mk hR0
 have HR := Aside0.mk hR1
 have HW := Aside0.mk hbd
 clear hR0 hR1 hbd
 refine hK.out _ _ ⟨below_cell HW.out ((blk_cell Q3.out 0).trans rfl), below_cell HW.out ((blk_cell Q3.out 5).trans rfl), below_cell HW.out T3.out⟩ (fun hHeld => ?_)
 clear hK K
 refine norm_ (a' := ?_) ?_ ?_
 rotate_left
 ·show Act.put _ (some 22) _ = _
  simp only [Act.put, List.setIfInBounds_toArray, List.set_cons_zero, List.set_cons_succ, i64_w, i32_w]
  rfl
 refine pure_ (i := 11) (N := some 11) (v := ?_) (a' := ?_) (ba_ 16 4095) rfl rfl (any_of HT_.out (by kernel_rfl)) (fun _ _ _ h => h) (Or.inl ⟨by rfl, ?_⟩) ?_ ?_
 rotate_left
 ·intro w'
  go_simp
  with_reducible rfl
 rotate_left
 ·simp only [Act.put, List.setIfInBounds_toArray, List.set_cons_zero, List.set_cons_succ, i64_w, i32_w]
  rfl
 refine pure_ (i := 12) (N := some 23) (v := ?_) (a' := ?_) (ba_ 16 8191) rfl rfl (any_of HT_.out (by kernel_rfl)) (fun _ _ _ h => h) (Or.inl ⟨by rfl, ?_⟩) ?_ ?_
 rotate_left
 ·intro w'
  go_simp
  with_reducible rfl
 rotate_left
 ·simp only [Act.put, List.setIfInBounds_toArray, List.set_cons_zero, List.set_cons_succ, i64_w, i32_w]
  rfl
 refine pure_ (i := 13) (N := some 24) (v := ?_) (a' := ?_) (ba_ 16 16383) rfl rfl (any_of HT_.out (by kernel_rfl)) (fun _ _ _ h => h) (Or.inl ⟨by rfl, ?_⟩) ?_ ?_
 rotate_left
 ·intro w'
  go_simp
  with_reducible rfl
 rotate_left
 ·simp only [Act.put, List.setIfInBounds_toArray, List.set_cons_zero, List.set_cons_succ, i64_w, i32_w]
  rfl
 refine pure_ (i := 14) (N := some 8) (v := ?_) (a' := ?_) (ba_ 16 32767) rfl rfl (any_of HT_.out (by kernel_rfl)) (fun _ _ _ h => h) (Or.inl ⟨by rfl, ?_⟩) ?_ ?_
 rotate_left
 ·intro w'
  go_simp
  with_reducible rfl
 rotate_left
 ·simp only [Act.put, List.setIfInBounds_toArray, List.set_cons_zero, List.set_cons_succ, i64_w, i32_w]
  rfl
 refine pure_ (i := 15) (N := some 9) (v := ?_) (a' := ?_) (ba_ 16 65535) rfl rfl (any_of HT_.out (by kernel_rfl)) (fun _ _ _ h => h) (Or.inl ⟨by rfl, ?_⟩) ?_ ?_
 rotate_left
 ·intro w'
  go_simp
  with_reducible rfl
 rotate_left
 ·simp only [Act.put, List.setIfInBounds_toArray, List.set_cons_zero, List.set_cons_succ, i64_w, i32_w]
  rfl
 refine done_ (done_of HT_.out (by kernel_rfl)) ?_
 clear hHeld T3
 have HSZ := Aside0.mk (show wa.heap.size ≤ wd.heap.size from HW.out.size)
 have HWA := Aside0.mk (show w.heap.size ≤ wa.heap.size from HB.out.size)
 have HGL := Aside0.mk (Kd.R_reads' HG.out).2.1
 have HRL := Aside0.mk (Kd.R_reads' HR.out).2.1
 have HG := Aside0.mk (fresh_F HG.out)
 have HR := Aside0.mk (fresh_F HR.out)
 have G3A := Aside0.mk (show g3 < wa.heap.size from blk_lt Q3.out)
 have G7A := Aside0.mk (show g7 < wa.heap.size from blk_lt Q7.out)
 have Q3 := Aside0.mk (blk_below Q3.out HW.out)
 have Q7 := Aside0.mk (blk_below Q7.out HW.out)
 have HB := Aside0.mk (HB.out.trans (HW.out.mono HB.out.size))
 clear HW HFI HLI
 have hx5 : wd.cell? ⟨g3, 5, none⟩ = some (.slice (some ad) x.f3.length c5) := (blk_cell Q3.out 5).trans rfl
 go_upto_region 3 with (first
   | ((with_reducible refine gate_dst (N := 25) rfl ?_); refine Kd.R_lit (kD) wd.heap.size 51 ?hg (N := 25) ?hd (xs := ([] : List _)) (inner := []) (ok := (fun k => k ≠ g3 ∧ k ≠ g7)) (okp := fun _ => False) ?hr ?hp (fun _ hk => hk.elim) ⟨fun e => by have := G3A.out; have := HSZ.out; omega, fun e => by have := G7A.out; have := HSZ.out; omega⟩ (Below.refl _ _) (Nat.le_refl _) (by simp) ?_; (case hd => rfl); (case hg => rfl); (case hr => first | (go_simp; done) | (go_simp; rfl)); (case hp => exact (Reps.none _ _)); intro vl wl ho hb hg_ hnew_; have HN5 := Aside0.mk (Kd.R_N ho); have HW := Aside0.mk hb; have Q3 := Aside0.mk (blk_below Q3.out hb); have Q7 := Aside0.mk (blk_below Q7.out hb); clear ho hb hg_ hnew_ hx5; have hx5 : wl.cell? ⟨g3, 5, none⟩ = some (.slice (some ad) x.f3.length c5) := (blk_cell Q3.out 5).trans rfl)
   | ((with_reducible refine gate_builtin (b := .append) (xs := #[.tmp 25, .tmp 27]) rfl ?_); at_builtin; refine Kd.N_append_rows (kD) wd.heap.size rfl (.tmp 25) (.tmp 27) 27 51 (.slice none 0 0) 24 rfl Try.underlying27 info51 rfl (by decide) (by omega) vl [] x.f3 _ _ _ (fun k => k ≠ g3 ∧ k ≠ g7) (fun k => k < w.heap.size) rfl rfl HN5.out (Kd.F_below HX.out.r5 (HB.out.trans (HW.out.mono HB.out.size))) (fun k hk => ⟨⟨fun e => by have := GE3.out; omega, fun e => by have := GE7.out; omega⟩, fun e => by have := Kd.N_base HN5.out k e.symm; have := HB.out.size; omega⟩) (fun k hk => ⟨fun e => by have := blk_lt Q3.out; omega, fun e => by have := blk_lt Q7.out; omega⟩) HW.out HW.out.size (by have := HN3.out; simp only [List.length_nil]; omega) ?_; intro v1 wm hn hb hg hat; rw [List.nil_append] at hn; obtain ⟨B5, b5, rfl⟩ := Kd.N_slice hn; have Q3 := Aside0.mk (blk_grown Q3.out hg (Kd.N_ne HN5.out Q3.out (by decide))); have Q7 := Aside0.mk (blk_grown Q7.out hg (Kd.N_ne HN5.out Q7.out (by decide))); have HN5 := Aside0.mk hn; have HW := Aside0.mk hb; clear hn hb hg hat hx5))
 have HB := Aside0.mk (HB.out.trans (HW.out.mono HB.out.size))
 have HG := Aside0.mk (Kd.F_below HG.out HW.out)
 have HR := Aside0.mk (Kd.F_below HR.out HW.out)
 clear HW
 obtain ⟨g5, cap, ev, hge, hlt, cs5, hcs5⟩ := Kd.N_form HN5.out (by have := HJ.out; omega)
 simp only [Value.slice.injEq, true_and] at ev
 obtain ⟨rfl, rfl⟩ := ev
 have HGE := Aside0.mk hge
 have HLB5 := Aside0.mk (Kd.N_reads' HN5.out).2.1
 obtain ⟨⟨u5, hu5⟩, hz5⟩ := row_cell HN5.out (i := j) HJ.out
 clear hge hlt hcs5
 go_upto_region 4 with fail
 clear hu5 hz5
 have hK5 : Kept wm (wm.setCell ⟨g5, j, none⟩ (.slice R rest.length rc)) (fun k => k = g5) := Kept.setCell (S := fun k => k = g5) (p := ⟨g5, j, none⟩) (Kept.refl _ _) (.inl rfl) _
 have n35 : g3 ≠ g5 := fun e => by have h1 := G3A.out; have h2 := HSZ.out; have h5 := HGE.out; omega
 have n75 : g7 ≠ g5 := fun e => by have h1 := G7A.out; have h2 := HSZ.out; have h5 := HGE.out; omega
 have HN5 := Aside0.mk (row_put51 HN5.out HJ.out HRL.out (Kd.F_mono HR.out (fun k hk => ⟨⟨fun e => by have h1 := G3A.out; omega, fun e => by have h1 := G7A.out; omega⟩, fun e => by have h5 := HGE.out; omega⟩)))
 have HG := Aside0.mk (Kd.F_kept HG.out hK5 (fun k hk e => by have h5 := HGE.out; omega))
 have Q3 := Aside0.mk (blk_kept Q3.out hK5 n35)
 have Q7 := Aside0.mk (blk_kept Q7.out hK5 n75)
 have HB := Aside0.mk (show Below w.heap.size w (wm.setCell ⟨g5, j, none⟩ (.slice R rest.length rc)) from below_set HB.out (by have h1 := HWA.out; have h2 := HSZ.out; have h5 := HGE.out; omega))
 have HLS := Aside0.mk (show (x.f3.set j rest).length = x.f3.length from List.length_set)
 clear hK5 n35 n75 HR
 generalize wm.setCell ⟨g5, j, none⟩ (.slice R rest.length rc) = wn at HN5 HG Q3 Q7 HB ⊢
 have hx5 : wn.cell? ⟨g3, 5, none⟩ = some (.slice (some ad) x.f3.length c5) := (blk_cell Q3.out 5).trans rfl
 have hf5 := blk_frozen Q3.out 5
 go_upto_region 5 with fail
 clear hx5 hf5
 have HK := Aside0.mk (show Kept wn (wn.setCell ⟨g3, 5, none⟩ (.slice (some ⟨g5, 0, none⟩) x.f3.length b5)) (fun k => k = g3) from Kept.setCell (S := fun k => k = g3) (p := ⟨g3, 5, none⟩) (Kept.refl _ _) (.inl rfl) _)
 have Q3 := Aside0.mk (show (wn.setCell ⟨g3, 5, none⟩ (.slice (some ⟨g5, 0, none⟩) x.f3.length b5)).heap[g3]? = some (.cells #[.int .u64 x.f0.f0, .int .i64 x.f0.f1, .int .i64 x.f0.f2, .slice A3 x.f1.length c3, .slice A4 x.f2.length c4, .slice (some ⟨g5, 0, none⟩) x.f3.length b5, .int .i64 x.f4, .slice A7 x.f5.length c7] 30 (0, 0)) from (blk_set Q3.out 5 _).trans rfl)
 have Q7 := Aside0.mk (blk_far (p := ⟨g3, 5, none⟩) Q7.out (Ne.symm NE.out) (.slice (some ⟨g5, 0, none⟩) x.f3.length b5))
 have HB := Aside0.mk (show Below w.heap.size w (wn.setCell ⟨g3, 5, none⟩ (.slice (some ⟨g5, 0, none⟩) x.f3.length b5)) from below_set HB.out GE3.out)
 have HF5 := Aside0.mk (Kd.F_drew (Kd.F_kept (Kd.N_F HN5.out) HK.out (fun k hk e => hk.1 e)))
 have HG := Aside0.mk (Kd.F_drew (Kd.F_kept HG.out HK.out (fun k hk e => by have h1 := G3A.out; omega)))
 clear HK HN5
 have Q3 := Aside0.mk (blk_drew Q3.out)
 have Q7 := Aside0.mk (blk_drew Q7.out)
 have HB := Aside0.mk (below_drew1 HB.out)
 generalize wn.setCell ⟨g3, 5, none⟩ (.slice (some ⟨g5, 0, none⟩) x.f3.length b5) = wo at HF5 HG Q3 Q7 HB ⊢
 refine start_ (n := 4) (S := fun w' => w'.cell? ⟨g3, 0, none⟩ = some (.int .u64 x.f0.f0) ∧ w'.cell? ⟨g3, 1, none⟩ = some (.int .i64 x.f0.f1) ∧ w'.cell? ⟨g3, 2, none⟩ = some (.int .i64 x.f0.f2) ∧ w'.cell? ⟨g3, 3, none⟩ = some (.slice A3 x.f1.length c3) ∧ w'.cell? ⟨g3, 4, none⟩ = some (.slice A4 x.f2.length c4) ∧ w'.cell? ⟨g3, 5, none⟩ = some (.slice (some ⟨g5, 0, none⟩) x.f3.length b5) ∧ w'.cell? ⟨g3, 6, none⟩ = some (.int .i64 x.f4) ∧ w'.cell? ⟨g3, 7, none⟩ = some (.slice A7 x.f5.length c7)) (ds := [3]) #[false, false, false, false] (by kernel_rfl) rfl rfl ⟨(blk_cell Q3.out 0).trans rfl, (blk_cell Q3.out 1).trans rfl, (blk_cell Q3.out 2).trans rfl, (blk_cell Q3.out 3).trans rfl, (blk_cell Q3.out 4).trans rfl, (blk_cell Q3.out 5).trans rfl, (blk_cell Q3.out 6).trans rfl, (blk_cell Q3.out 7).trans rfl⟩ (fun hHeld => ?_)
 generalize wo.drew = wt at HF5 HG Q3 Q7 HB hHeld ⊢
 refine with_tabW refDrawn.tab5 refDrawn.bits5 (fun HT_ HW_ => ?_)
 refine pure_ (i := 0) (N := some 36) (v := ?_) (a' := ?_) #[true, false, false, false] rfl rfl (any_of HT_.out (by kernel_rfl)) (fun _ _ _ h => h) (Or.inl ⟨by rfl, ?_⟩) ?_ ?_
 rotate_left
 ·intro w'
  go_simp
  with_reducible rfl
 rotate_left
 ·simp only [Act.put, List.setIfInBounds_toArray, List.set_cons_zero, List.set_cons_succ, i64_w, i32_w]
  rfl
 refine take_ (i := 1) (N := some 37) (v := ?_) (a' := ?_) #[true, true, false, false] rfl rfl (take_ofW HT_.out HW_.out (by kernel_rfl)) (fun _ _ _ h => h) (Or.inl ⟨by rfl, ?_⟩) hHeld ?_ ?_
 rotate_left
 ·rintro w' ⟨s0, s1, s2, s3, s4, s5, s6, s7⟩
  go_simp
  with_reducible rfl
 rotate_left
 ·simp only [Act.put, List.setIfInBounds_toArray, List.set_cons_zero, List.set_cons_succ, i64_w, i32_w]
  rfl
 refine pure_ (i := 2) (N := some 6) (v := ?_) (a' := ?_) #[true, true, true, false] rfl rfl (any_of HT_.out (by kernel_rfl)) (fun _ _ _ h => h) (Or.inl ⟨by rfl, ?_⟩) ?_ ?_
 rotate_left
 ·intro w'
  go_simp
  with_reducible rfl
 rotate_left
 ·simp only [Act.put, List.setIfInBounds_toArray, List.set_cons_zero, List.set_cons_succ, i64_w, i32_w]
  rfl
 refine last_ (i := 3) (N := none) #[true, true, true, true] rfl rfl (one_of HT_.out (by kernel_rfl)) (by decide) (fun K hK => ?_)
 have hv0 : wt.cell? ⟨g7, 0, none⟩ = some (.int .u64 0) := (blk_cell Q7.out 0).trans rfl
 have hw0 := blk_frozen Q7.out 0
 have hv1 : wt.cell? ⟨g7, 1, none⟩ = some (.int .i64 0) := (blk_cell Q7.out 1).trans rfl
 have hw1 := blk_frozen Q7.out 1
 have hv2 : wt.cell? ⟨g7, 2, none⟩ = some (.int .i64 0) := (blk_cell Q7.out 2).trans rfl
 have hw2 := blk_frozen Q7.out 2
 have hv3 : wt.cell? ⟨g7, 3, none⟩ = some (.slice none 0 0) := (blk_cell Q7.out 3).trans rfl
 have hw3 := blk_frozen Q7.out 3
 have hv4 : wt.cell? ⟨g7, 4, none⟩ = some (.slice none 0 0) := (blk_cell Q7.out 4).trans rfl
 have hw4 := blk_frozen Q7.out 4
 have hv5 : wt.cell? ⟨g7, 5, none⟩ = some (.slice none 0 0) := (blk_cell Q7.out 5).trans rfl
 have hw5 := blk_frozen Q7.out 5
 have hv6 : wt.cell? ⟨g7, 6, none⟩ = some (.int .i64 0) := (blk_cell Q7.out 6).trans rfl
 have hw6 := blk_frozen Q7.out 6
 have hv7 : wt.cell? ⟨g7, 7, none⟩ = some (.slice none 0 0) := (blk_cell Q7.out 7).trans rfl
 have hw7 := blk_frozen Q7.out 7
 refine skip_ (w1 := ?_) (by rfl) rfl ?_ ?_
 rotate_left
 ·go_simp
  rfl
 refine hK.out _ _ ?_
 clear hK K
 refine done_ (done_of HT_.out (by kernel_rfl)) ?_
 rw [show ((((((((wt.setCell ⟨g7, 0, none⟩ (.int .u64 x.f0.f0)).setCell ⟨g7, 1, none⟩ (.int .i64 x.f0.f1)).setCell ⟨g7, 2, none⟩ (.int .i64 x.f0.f2)).setCell ⟨g7, 3, none⟩ (.slice A3 x.f1.length c3)).setCell ⟨g7, 4, none⟩ (.slice A4 x.f2.length c4)).setCell ⟨g7, 5, none⟩ (.slice (some ⟨g5, 0, none⟩) x.f3.length b5)).setCell ⟨g7, 6, none⟩ (.int .i64 x.f4)).setCell ⟨g7, 7, none⟩ (.slice A7 x.f5.length c7)) = put8 wt g7 (.int .u64 x.f0.f0) (.int .i64 x.f0.f1) (.int .i64 x.f0.f2) (.slice A3 x.f1.length c3) (.slice A4 x.f2.length c4) (.slice (some ⟨g5, 0, none⟩) x.f3.length b5) (.int .i64 x.f4) (.slice A7 x.f5.length c7) from rfl]
 have hK8 := kept8 wt g7 (.int .u64 x.f0.f0) (.int .i64 x.f0.f1) (.int .i64 x.f0.f2) (.slice A3 x.f1.length c3) (.slice A4 x.f2.length c4) (.slice (some ⟨g5, 0, none⟩) x.f3.length b5) (.int .i64 x.f4) (.slice A7 x.f5.length c7)
 have hB8 := below8 HB.out GE7.out (.int .u64 x.f0.f0) (.int .i64 x.f0.f1) (.int .i64 x.f0.f2) (.slice A3 x.f1.length c3) (.slice A4 x.f2.length c4) (.slice (some ⟨g5, 0, none⟩) x.f3.length b5) (.int .i64 x.f4) (.slice A7 x.f5.length c7)
 have hb8 := blk8 Q7.out (.int .u64 x.f0.f0) (.int .i64 x.f0.f1) (.int .i64 x.f0.f2) (.slice A3 x.f1.length c3) (.slice A4 x.f2.length c4) (.slice (some ⟨g5, 0, none⟩) x.f3.length b5) (.int .i64 x.f4) (.slice A7 x.f5.length c7)
 have h5 := Kd.F_now (Kd.F_kept HF5.out hK8 (fun k hk e => hk.2 e))
 have hg := Kd.F_now (Kd.F_kept HG.out hK8 (fun k hk e => by have h1 := G7A.out; omega))
 generalize put8 wt g7 (.int .u64 x.f0.f0) (.int .i64 x.f0.f1) (.int .i64 x.f0.f2) (.slice A3 x.f1.length c3) (.slice A4 x.f2.length c4) (.slice (some ⟨g5, 0, none⟩) x.f3.length b5) (.int .i64 x.f4) (.slice A7 x.f5.length c7) = wz at hB8 hb8 h5 hg ⊢
 have hX := HX.out.below hB8
 clear hHeld hv0 hw0 hv1 hw1 hv2 hw2 hv3 hw3 hv4 hw4 hv5 hw5 hv6 hw6 hv7 hw7
 try go_wp2
 refine bodyPost_ret (results_list (rs := [.tmp 6, .cell 7 30]) rfl (by simp) (.tmp (.cell g7 30 #[.int .u64 x.f0.f0, .int .i64 x.f0.f1, .int .i64 x.f0.f2, .slice A3 x.f1.length c3, .slice A4 x.f2.length c4, .slice (some ⟨g5, 0, none⟩) x.f3.length b5, .int .i64 x.f4, .slice A7 x.f5.length c7] (0, 0) _ rfl hb8 Try.underlying30 rfl (by kernel_rfl) .nil))) (by rfl) ?_
 refine ⟨G, d, A3, c3, A4, c4, some ⟨g5, 0, none⟩, b5, A7, c7, ?_, hg, HGL.out, k30_mk wz (⟨x.f0, x.f1, x.f2, x.f3.set j rest, x.f4, x.f5⟩ : S30) hX.l3 (Kd.F_now hX.r3) hX.l4 (Kd.F_now hX.r4) (by show (x.f3.set j rest).length ≤ b5; rw [HLS.out]; exact HLB5.out) (by show Kd.C _ wz _ (x.f3.set j rest).length _; rw [HLS.out]; exact h5) hX.l7 (Kd.F_now hX.r7), hB8⟩
 show _ = Ending.returned (.tuple #[.slice G l.length d, .agg #[.int .u64 x.f0.f0, .int .i64 x.f0.f1, .int .i64 x.f0.f2, .slice A3 x.f1.length c3, .slice A4 x.f2.length c4, .slice (some ⟨g5, 0, none⟩) (x.f3.set j rest).length b5, .int .i64 x.f4, .slice A7 x.f5.length c7]])
 rw [HLS.out]
 rfl
end
end Go.Proofs.Ytkaikgbcnmfppaa.Nb
