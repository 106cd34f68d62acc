/- net.New walked. Made by mk_new.py. -/
import Derived.Test.YtkaikgbcnmfppaaNbNewA
import Derived.Test.YtkaikgbcnmfppaaNbFShareSetup
namespace Go.Proofs.Ytkaikgbcnmfppaa.Nb
open Go Go.RowKit Go.Proofs.YtkaikgbcnmfppaaW.PrintWords Go.Proofs.YtkaikgbcnmfppaaW.PrintLast Go.Proofs.YtkaikgbcnmfppaaW.PrintMore
attribute [local go_sem] max2_int min2_int max_two min_two max_three min_three max_four min_four
set_option linter.unusedVariables false
set_option linter.unusedSimpArgs false
noncomputable section
/-- What New hands back. -/
def NewPost (W : World) (x : S30) (er : Int) (e : Ending) (w' : World) : Prop :=
 ∃ A3 c3 A4 c4 A5 c5 A7 c7, e = .returned (.tuple #[.agg (wv x A3 c3 A4 c4 A5 c5 A7 c7), .int .i64 er]) ∧ k30.K w' x (wv x A3 c3 A4 c4 A5 c5 A7 c7).toList ∧ Below W.heap.size W w'
/-- Behind the two allocations of New's region 6, in either order. -/
structure NewMid (P T : Int) (n g4 g8 : Nat) (w : World) (s : Nat × Nat) (w' : World) : Prop where
 b4 : w'.heap[g4]? = some (.cells #[.int .u64 P, .int .i64 (n : Int), .int .i64 T] 24 (0, 0))
 b8 : w'.heap[g8]? = some (.cells #[.int .u64 0, .int .i64 0, .int .i64 0, .slice none 0 0, .slice none 0 0, .slice none 0 0, .int .i64 0, .slice none 0 0] 30 (0, 0))
 bh : w'.heap[s.1]? = some (.cells (madeCells #[.slice none 0 0] n) 51 (0, 0))
 b11 : w'.heap[s.2]? = some (.cells #[.int .u64 0, .int .i64 0, .int .i64 0, .slice none 0 0, .slice none 0 0, .slice none 0 0, .int .i64 0, .slice none 0 0] 30 (0, 0))
 hb : Below w.heap.size w w'
 l1 : w.heap.size ≤ s.1
 l2 : w.heap.size ≤ s.2
 ne : g8 ≠ s.2
def new.T6 : Bool × List (List Nat × List Nat) := (true, [([], []), ([], []), ([], []), ([], []), ([3], [3]), ([4, 4], [4]), ([0, 1, 2, 5], [0, 1, 2, 5]), ([], []), ([7, 6, 0, 1, 2, 3, 4, 5, 6, 7], [6, 7])])
def new.B6 : List Nat := [0, 0, 0, 0, 8, 24, 63, 0, 255]
theorem new.tab6 : rtab .any (opsOf Try.f15 6) = new.T6 := by kernel_rfl
theorem new.bits6 : waitsOk new.T6.2 new.B6 = true := by kernel_rfl
set_option maxHeartbeats 8000000 in
set_option maxRecDepth 100000 in
theorem new_ok (k : Nat) (n : Nat) (P T : Int) (A3 : Option Addr) (c3 : Nat) (co : List Int) (A5 : Option Addr) (c5 : Nat) (ta : List (List Int)) (A4 : Option Addr) (c4 : Nat) (ac : List S72) (w : World) (hc : shS.f k P (n : Int) T = some 0) (hn1 : 1 ≤ n) (hn2 : n ≤ 1000) (hm : ta.length ≤ n) (h3 : (Kd.int .i64).C w A3 co.length co) (h3l : co.length ≤ c3) (h4 : k72.C w A4 ac.length ac) (h4l : ac.length ≤ c4) (h5 : kD.C w A5 ta.length ta) (h5l : ta.length ≤ c5) (hk : wcheck k (⟨⟨P, (n : Int), T⟩, co, ac, ta ++ List.replicate (n - ta.length) [], 0, []⟩ : S30) = some 0) (hcl : Small co ac (ta ++ List.replicate (n - ta.length) []) []) :
  Calls Try.prog 15 #[.agg #[.int .u64 P, .int .i64 (n : Int), .int .i64 T], .slice A3 co.length c3, .slice A5 ta.length c5, .slice A4 ac.length c4] w (NewPost w (⟨⟨P, (n : Int), T⟩, co, ac, ta ++ List.replicate (n - ta.length) [], 0, []⟩ : S30) 0) := by
 have hu30 := Try.underlying30
 have hu24 := Try.underlying24
 have HC := Qz.mk hc
 have HN1 := Qz.mk hn1
 have HN2 := Qz.mk hn2
 have HM := Qz.mk hm
 have H3 := Qz.mk h3
 have H4 := Qz.mk h4
 have H5 := Qz.mk h5
 have H3L := Qz.mk h3l
 have H4L := Qz.mk h4l
 have H5L := Qz.mk h5l
 have HCX := (show net_Check.f k P (n : Int) T co ac (ta ++ List.replicate (n - ta.length) []) 0 [] = some 0 from hk)
 have hr1 : decide ((n : Int) < (ta.length : Int)) = false := decide_eq_false (by omega)
 have hr1b : decide (n < ta.length) = false := decide_eq_false (by omega)
 have hmk := print_make_of (P := Try.prog) 27 51 (.slice none 0 0) 24 Try.underlying27 info51 rfl (by decide) n (by omega)
 obtain ⟨tx, htx⟩ : ∃ x, x = ta ++ List.replicate (n - ta.length) ([] : List Int) := ⟨_, rfl⟩
 have HTL := Qz.mk (show tx.length = n from by rw [htx]; simp; omega)
 rw [← htx] at HCX hcl ⊢
 have HTX := Qz.mk htx
 clear htx
 have HK := Qz.mk HCX
 have HCL := Qz.mk hcl
 clear HCX hk hcl hc hn1 hn2 hm h3 h4 h5 h3l h4l h5l
 go_enter Try.func15, Try.ntmps15
 go_upto_region 6 with (first
  | ((with_reducible refine gdt (N := 4) rfl ?_); refine bxe ?hg (N := 4) ?hd (cs := #[.int .u64 P, .int .i64 (n : Int), .int .i64 T]) (t := 24) ?hr ?_; (case hd => rfl); (case hg => rfl); (case hr => first | (go_simp; done) | (go_simp; rfl)); intro g4 hg4 w4 hbox hb4; have BK4 := Qz.mk hbox; have HB4 := Qz.mk hb4; clear hg4 hbox hb4)
  | ((with_reducible refine gdt (N := 8) rfl ?_); refine bxe ?hg (N := 8) ?hd (cs := #[.int .u64 0, .int .i64 0, .int .i64 0, .slice none 0 0, .slice none 0 0, .slice none 0 0, .int .i64 0, .slice none 0 0]) (t := 30) ?hr ?_; (case hd => rfl); (case hg => rfl); (case hr => first | (go_simp; done) | (go_simp; rfl)); intro g8 hg8 w8 hbox hb8; have BK8 := Qz.mk hbox; have GE8 := Qz.mk (show w.heap.size ≤ g8 from by rw [hg8]; exact HB4.out.size); have BK4 := Qz.mk (bkb BK4.out hb8); have HB8 := Qz.mk (HB4.out.trans (hb8.mono HB4.out.size)); clear HB4 hg8 hbox hb8; have hx0 : w8.cell? ⟨g4, 0, none⟩ = some (.int .u64 P) := (bc_ BK4.out 0).trans rfl; have hx1 : w8.cell? ⟨g4, 1, none⟩ = some (.int .i64 (n : Int)) := (bc_ BK4.out 1).trans rfl; have hx2 : w8.cell? ⟨g4, 2, none⟩ = some (.int .i64 T) := (bc_ BK4.out 2).trans rfl)
  | (go_at_call 45; refine (shS.calls k P (n : Int) T 0 w8 HC.out).mono ?_; rintro e wc ⟨rfl, hbc⟩; have BK4 := Qz.mk (bkb BK4.out hbc); have BK8 := Qz.mk (bkb BK8.out hbc); have HBC := Qz.mk (HB8.out.trans (hbc.mono HB8.out.size)); clear HB8 hbc hx0 hx1 hx2; have hy0 : wc.cell? ⟨g4, 0, none⟩ = some (.int .u64 P) := (bc_ BK4.out 0).trans rfl; have hy1 : wc.cell? ⟨g4, 1, none⟩ = some (.int .i64 (n : Int)) := (bc_ BK4.out 1).trans rfl; have hy2 : wc.cell? ⟨g4, 2, none⟩ = some (.int .i64 T) := (bc_ BK4.out 2).trans rfl; have hz0 : wc.cell? ⟨g8, 0, none⟩ = some (.int .u64 0) := (bc_ BK8.out 0).trans rfl; have hz1 : wc.cell? ⟨g8, 1, none⟩ = some (.int .i64 0) := (bc_ BK8.out 1).trans rfl; have hz2 : wc.cell? ⟨g8, 2, none⟩ = some (.int .i64 0) := (bc_ BK8.out 2).trans rfl; have hz3 : wc.cell? ⟨g8, 3, none⟩ = some (.slice none 0 0) := (bc_ BK8.out 3).trans rfl; have hz4 : wc.cell? ⟨g8, 4, none⟩ = some (.slice none 0 0) := (bc_ BK8.out 4).trans rfl; have hz5 : wc.cell? ⟨g8, 5, none⟩ = some (.slice none 0 0) := (bc_ BK8.out 5).trans rfl; have hz6 : wc.cell? ⟨g8, 6, none⟩ = some (.int .i64 0) := (bc_ BK8.out 6).trans rfl; have hz7 : wc.cell? ⟨g8, 7, none⟩ = some (.slice none 0 0) := (bc_ BK8.out 7).trans rfl; have hf0 := bf_ BK8.out 0; have hf1 := bf_ BK8.out 1; have hf2 := bf_ BK8.out 2; have hf3 := bf_ BK8.out 3; have hf4 := bf_ BK8.out 4; have hf5 := bf_ BK8.out 5; have hf6 := bf_ BK8.out 6; have hf7 := bf_ BK8.out 7))
 clear hy0 hy1 hy2 hz0 hz1 hz2 hz3 hz4 hz5 hz6 hz7 hf0 hf1 hf2 hf3 hf4 hf5 hf6 hf7
 have BK4 := Qz.mk (bkd BK4.out)
 have BK8 := Qz.mk (bkd BK8.out)
 have HBC := Qz.mk (bd1 HBC.out)
 refine start_ (n := 9) (S := fun w' => w'.cell? ⟨g4, 0, none⟩ = some (.int .u64 P) ∧ w'.cell? ⟨g4, 1, none⟩ = some (.int .i64 (n : Int)) ∧ w'.cell? ⟨g4, 2, none⟩ = some (.int .i64 T)) (ds := [8]) #[false, false, false, false, false, false, false, false, false] (by kernel_rfl) rfl rfl ⟨(bc_ BK4.out 0).trans rfl, (bc_ BK4.out 1).trans rfl, (bc_ BK4.out 2).trans rfl⟩ (fun hHeld => ?_)
 generalize wc.drew = wt at BK4 BK8 HBC hHeld ⊢
 refine with_tabW new.tab6 new.bits6 (fun HT_ HW_ => ?_)
 refine pure_ (i := 1) (N := some 26) (v := ?_) (a' := ?_) #[false, true, false, false, false, false, false, false, false] rfl rfl (any_of HT_.out (by kernel_rfl)) (fun _ _ _ h => h) (Or.inl ⟨by rfl, ?_⟩) ?_ ?_
 rotate_left
 ·intro w'
  go_simp
  with_reducible rfl
 rotate_left
 ·simp only [aw_]
  rfl
 refine pure_ (i := 2) (N := some 27) (v := ?_) (a' := ?_) #[false, true, true, false, false, false, false, false, false] rfl rfl (any_of HT_.out (by kernel_rfl)) (fun _ _ _ h => h) (Or.inl ⟨by rfl, ?_⟩) ?_ ?_
 rotate_left
 ·intro w'
  go_simp
  with_reducible rfl
 rotate_left
 ·simp only [aw_]
  rfl
 refine pure_ (i := 3) (N := some 28) (v := ?_) (a' := ?_) #[false, true, true, true, false, false, false, false, false] rfl rfl (any_of HT_.out (by kernel_rfl)) (fun _ _ _ h => h) (Or.inl ⟨by rfl, ?_⟩) ?_ ?_
 rotate_left
 ·intro w'
  go_simp
  with_reducible rfl
 rotate_left
 ·simp only [aw_]
  rfl
 refine take_ (i := 0) (N := some 25) (v := ?_) (a' := ?_) #[true, true, true, true, false, false, false, false, false] rfl rfl (take_ofW HT_.out HW_.out (by kernel_rfl)) (fun _ _ _ h => h) (Or.inl ⟨by rfl, ?_⟩) hHeld ?_ ?_
 rotate_left
 ·rintro w' ⟨s0, s1, s2⟩
  go_simp
  with_reducible rfl
 rotate_left
 ·simp only [aw_]
  rfl
 refine take_ (i := 4) (N := some 29) (v := ?_) (a' := ?_) #[true, true, true, true, true, false, false, false, false] rfl rfl (take_ofW HT_.out HW_.out (by kernel_rfl)) (fun _ _ _ h => h) (Or.inl ⟨by rfl, ?_⟩) hHeld ?_ ?_
 rotate_left
 ·rintro w' ⟨s0, s1, s2⟩
  go_simp
  with_reducible rfl
 rotate_left
 ·simp only [aw_]
  rfl
 refine join_ (σ := Nat × Nat) 1 #[true, true, true, true, true, true, true, true, false] (fun s => [(30, .slice (some ⟨s.1, 0, none⟩) n n), (31, .agg #[.int .u64 P, .int .i64 (n : Int), .int .i64 T, .slice A3 co.length c3, .slice A4 ac.length c4, .slice (some ⟨s.1, 0, none⟩) n n, .int .i64 0, .slice none 0 0]), (11, .pointer (some ⟨s.2, 0, none⟩))]) (NewMid P T n g4 g8 w) ?_ ?_
 rotate_left
 ·intro hCont
  refine two_ (i := 5) (j := 7) (Ni := some 30) (Nj := some 11) #[true, true, true, true, true, true, false, false, false] #[true, true, true, true, true, false, false, true, false] rfl rfl rfl rfl (by kernel_rfl) (by decide) (by decide) (fun K hK => ?_) (fun K hK => ?_)
  ·skip
   refine value_ (v := .slice (some ⟨(wt).heap.size, 0, none⟩) n n) (w1 := (wt).alloc (.cells (madeCells #[.slice none 0 0] n) 51)) (by rfl) rfl (by first | (go_simp; done) | (go_simp; rfl)) ?_
   refine hK.out _ _ ⟨(bc_ (bka (BK4.out) _) 0).trans rfl, (bc_ (bka (BK4.out) _) 1).trans rfl, (bc_ (bka (BK4.out) _) 2).trans rfl⟩ (fun hHeld => ?_)
   clear hK K
   refine norm_ (a' := ?_) ?_ ?_
   rotate_left
   ·show Act.put _ (some 30) _ = _
    simp only [aw_]
    rfl
   refine pure_ (i := 6) (N := some 31) (v := ?_) (a' := ?_) #[true, true, true, true, true, true, true, false, false] rfl rfl (any_of HT_.out (by kernel_rfl)) (fun _ _ _ h => h) (Or.inl ⟨by rfl, ?_⟩) ?_ ?_
   rotate_left
   ·intro w'
    go_simp
    with_reducible rfl
   rotate_left
   ·simp only [aw_]
    rfl
   refine one_ (i := 7) (N := some 11) #[true, true, true, true, true, true, true, true, false] rfl rfl (one_of HT_.out (by kernel_rfl)) (by decide) (fun K hK => ?_)
   have hsz : (wt.alloc (.cells (madeCells #[.slice none 0 0] n) 51)).heap.size = wt.heap.size + 1 := Array.size_push _
   refine value_ (v := .pointer (some ⟨(wt.alloc (.cells (madeCells #[.slice none 0 0] n) 51)).heap.size, 0, none⟩)) (w1 := (wt.alloc (.cells (madeCells #[.slice none 0 0] n) 51)).alloc (.cells #[.int .u64 0, .int .i64 0, .int .i64 0, .slice none 0 0, .slice none 0 0, .slice none 0 0, .int .i64 0, .slice none 0 0] 30 (0, 0))) (by rfl) rfl (by first | (go_simp; done) | (go_simp; rfl)) ?_
   refine hK.out _ _ ⟨(bc_ (bka (bka (BK4.out) _) _) 0).trans rfl, (bc_ (bka (bka (BK4.out) _) _) 1).trans rfl, (bc_ (bka (bka (BK4.out) _) _) 2).trans rfl⟩ (fun hHeld => ?_)
   clear hK K
   refine norm_ (a' := ?_) ?_ ?_
   rotate_left
   ·show Act.put _ (some 11) _ = _
    simp only [aw_]
    rfl
   exact norm_ (by first | (simp only [putAll, Act.put, List.setIfInBounds_toArray, List.set_cons_zero, List.set_cons_succ]; done) | (simp only [putAll, Act.put, List.setIfInBounds_toArray, List.set_cons_zero, List.set_cons_succ]; rfl)) (hCont (wt.heap.size, (wt.alloc (.cells (madeCells #[.slice none 0 0] n) 51)).heap.size) _ ⟨bka (bka BK4.out _) _, bka (bka BK8.out _) _, bka (blk_new wt _) _, blk_new _ _, ba1 (ba1 HBC.out _) _, HBC.out.size, by show w.heap.size ≤ (wt.alloc (.cells (madeCells #[.slice none 0 0] n) 51)).heap.size; rw [hsz]; exact Nat.le_succ_of_le HBC.out.size, by show g8 ≠ (wt.alloc (.cells (madeCells #[.slice none 0 0] n) 51)).heap.size; rw [hsz]; have := blt BK8.out; omega⟩)
  ·skip
   refine value_ (v := .pointer (some ⟨(wt).heap.size, 0, none⟩)) (w1 := (wt).alloc (.cells #[.int .u64 0, .int .i64 0, .int .i64 0, .slice none 0 0, .slice none 0 0, .slice none 0 0, .int .i64 0, .slice none 0 0] 30 (0, 0))) (by rfl) rfl (by first | (go_simp; done) | (go_simp; rfl)) ?_
   refine hK.out _ _ ⟨(bc_ (bka (BK4.out) _) 0).trans rfl, (bc_ (bka (BK4.out) _) 1).trans rfl, (bc_ (bka (BK4.out) _) 2).trans rfl⟩ (fun hHeld => ?_)
   clear hK K
   refine norm_ (a' := ?_) ?_ ?_
   rotate_left
   ·show Act.put _ (some 11) _ = _
    simp only [aw_]
    rfl
   refine one_ (i := 5) (N := some 30) #[true, true, true, true, true, true, false, true, false] rfl rfl (one_of HT_.out (by kernel_rfl)) (by decide) (fun K hK => ?_)
   have hsz : (wt.alloc (.cells #[.int .u64 0, .int .i64 0, .int .i64 0, .slice none 0 0, .slice none 0 0, .slice none 0 0, .int .i64 0, .slice none 0 0] 30 (0, 0))).heap.size = wt.heap.size + 1 := Array.size_push _
   refine value_ (v := .slice (some ⟨wt.heap.size + 1, 0, none⟩) n n) (w1 := (wt.alloc (.cells #[.int .u64 0, .int .i64 0, .int .i64 0, .slice none 0 0, .slice none 0 0, .slice none 0 0, .int .i64 0, .slice none 0 0] 30 (0, 0))).alloc (.cells (madeCells #[.slice none 0 0] n) 51)) (by rfl) rfl (by first | (go_simp; done) | (go_simp; rfl)) ?_
   refine hK.out _ _ ⟨(bc_ (bka (bka (BK4.out) _) _) 0).trans rfl, (bc_ (bka (bka (BK4.out) _) _) 1).trans rfl, (bc_ (bka (bka (BK4.out) _) _) 2).trans rfl⟩ (fun hHeld => ?_)
   clear hK K
   refine norm_ (a' := ?_) ?_ ?_
   rotate_left
   ·show Act.put _ (some 30) _ = _
    simp only [aw_]
    rfl
   refine pure_ (i := 6) (N := some 31) (v := ?_) (a' := ?_) #[true, true, true, true, true, true, true, true, false] rfl rfl (any_of HT_.out (by kernel_rfl)) (fun _ _ _ h => h) (Or.inl ⟨by rfl, ?_⟩) ?_ ?_
   rotate_left
   ·intro w'
    go_simp
    with_reducible rfl
   rotate_left
   ·simp only [aw_]
    rfl
   exact norm_ (by first | (simp only [putAll, Act.put, List.setIfInBounds_toArray, List.set_cons_zero, List.set_cons_succ]; done) | (simp only [putAll, Act.put, List.setIfInBounds_toArray, List.set_cons_zero, List.set_cons_succ]; rfl)) (hCont (wt.heap.size + 1, wt.heap.size) _ ⟨bka (bka BK4.out _) _, bka (bka BK8.out _) _, by have h := blk_new (wt.alloc (.cells #[.int .u64 0, .int .i64 0, .int .i64 0, .slice none 0 0, .slice none 0 0, .slice none 0 0, .int .i64 0, .slice none 0 0] 30 (0, 0))) (.cells (madeCells #[.slice none 0 0] n) 51); rw [hsz] at h; exact h, bka (blk_new wt _) _, ba1 (ba1 HBC.out _) _, Nat.le_succ_of_le HBC.out.size, HBC.out.size, by show g8 ≠ wt.heap.size; have := blt BK8.out; omega⟩)
 clear BK4 BK8 HBC
 intro s w6 hMid
 obtain ⟨gh, g11⟩ := s
 have BK4 := Qz.mk hMid.b4
 have BK8 := Qz.mk hMid.b8
 have BKH := Qz.mk (show w6.heap[gh]? = _ from hMid.bh)
 have BK11 := Qz.mk (show w6.heap[g11]? = _ from hMid.b11)
 have HBC := Qz.mk hMid.hb
 have GEH := Qz.mk (show w.heap.size ≤ gh from hMid.l1)
 have GE11 := Qz.mk (show w.heap.size ≤ g11 from hMid.l2)
 have NE11 := Qz.mk (show g8 ≠ g11 from hMid.ne)
 clear hMid
 refine norm_ (a' := ?_) ?_ ?_
 rotate_left
 ·simp only [putAll, Act.put, List.setIfInBounds_toArray, List.set_cons_zero, List.set_cons_succ]
  rfl
 refine last_ (i := 8) (N := none) #[true, true, true, true, true, true, true, true, true] rfl rfl (one_of HT_.out (by kernel_rfl)) (by decide) (fun K hK => ?_)
 have hv0 : w6.cell? ⟨g11, 0, none⟩ = some (.int .u64 0) := (bc_ BK11.out 0).trans rfl
 have hw0 := bf_ BK11.out 0
 have hv1 : w6.cell? ⟨g11, 1, none⟩ = some (.int .i64 0) := (bc_ BK11.out 1).trans rfl
 have hw1 := bf_ BK11.out 1
 have hv2 : w6.cell? ⟨g11, 2, none⟩ = some (.int .i64 0) := (bc_ BK11.out 2).trans rfl
 have hw2 := bf_ BK11.out 2
 have hv3 : w6.cell? ⟨g11, 3, none⟩ = some (.slice none 0 0) := (bc_ BK11.out 3).trans rfl
 have hw3 := bf_ BK11.out 3
 have hv4 : w6.cell? ⟨g11, 4, none⟩ = some (.slice none 0 0) := (bc_ BK11.out 4).trans rfl
 have hw4 := bf_ BK11.out 4
 have hv5 : w6.cell? ⟨g11, 5, none⟩ = some (.slice none 0 0) := (bc_ BK11.out 5).trans rfl
 have hw5 := bf_ BK11.out 5
 have hv6 : w6.cell? ⟨g11, 6, none⟩ = some (.int .i64 0) := (bc_ BK11.out 6).trans rfl
 have hw6 := bf_ BK11.out 6
 have hv7 : w6.cell? ⟨g11, 7, none⟩ = some (.slice none 0 0) := (bc_ BK11.out 7).trans rfl
 have hw7 := bf_ BK11.out 7
 refine skip_ (w1 := ?_) (by rfl) rfl ?_ ?_
 rotate_left
 ·go_simp
  rfl
 refine hK.out _ _ ?_
 clear hK K
 refine done_ (done_of HT_.out (by kernel_rfl)) ?_
 rw [show ((((((((w6.setCell ⟨g11, 0, none⟩ (.int .u64 P)).setCell ⟨g11, 1, none⟩ (.int .i64 (n : Int))).setCell ⟨g11, 2, none⟩ (.int .i64 T)).setCell ⟨g11, 3, none⟩ (.slice A3 co.length c3)).setCell ⟨g11, 4, none⟩ (.slice A4 ac.length c4)).setCell ⟨g11, 5, none⟩ (.slice (some ⟨gh, 0, none⟩) n n)).setCell ⟨g11, 6, none⟩ (.int .i64 0)).setCell ⟨g11, 7, none⟩ (.slice none 0 0)) = put8 w6 g11 (.int .u64 P) (.int .i64 (n : Int)) (.int .i64 T) (.slice A3 co.length c3) (.slice A4 ac.length c4) (.slice (some ⟨gh, 0, none⟩) n n) (.int .i64 0) (.slice none 0 0) from rfl]
 have hK11 := kept8 w6 g11 (.int .u64 P) (.int .i64 (n : Int)) (.int .i64 T) (.slice A3 co.length c3) (.slice A4 ac.length c4) (.slice (some ⟨gh, 0, none⟩) n n) (.int .i64 0) (.slice none 0 0)
 have BKH := Qz.mk (bkk BKH.out hK11 (fun e => by
  have h1 := BKH.out
  rw [e, BK11.out] at h1
  injection h1 with h1
  injection h1 with _ h1
  exact absurd h1 (by decide)))
 have BK8 := Qz.mk (bkk BK8.out hK11 NE11.out)
 have HBC := Qz.mk (below8 HBC.out GE11.out (.int .u64 P) (.int .i64 (n : Int)) (.int .i64 T) (.slice A3 co.length c3) (.slice A4 ac.length c4) (.slice (some ⟨gh, 0, none⟩) n n) (.int .i64 0) (.slice none 0 0))
 have BK11 := Qz.mk (blk8 BK11.out (.int .u64 P) (.int .i64 (n : Int)) (.int .i64 T) (.slice A3 co.length c3) (.slice A4 ac.length c4) (.slice (some ⟨gh, 0, none⟩) n n) (.int .i64 0) (.slice none 0 0))
 clear hK11 hv0 hw0 hv1 hw1 hv2 hw2 hv3 hw3 hv4 hw4 hv5 hw5 hv6 hw6 hv7 hw7
 generalize hw7 : put8 w6 g11 (.int .u64 P) (.int .i64 (n : Int)) (.int .i64 T) (.slice A3 co.length c3) (.slice A4 ac.length c4) (.slice (some ⟨gh, 0, none⟩) n n) (.int .i64 0) (.slice none 0 0) = w7 at BKH BK8 HBC BK11 ⊢
 clear hw7 BK4
 have hx0 : w7.cell? ⟨g11, 0, none⟩ = some (.int .u64 P) := (bc_ BK11.out 0).trans rfl; have hx1 : w7.cell? ⟨g11, 1, none⟩ = some (.int .i64 (n : Int)) := (bc_ BK11.out 1).trans rfl; have hx2 : w7.cell? ⟨g11, 2, none⟩ = some (.int .i64 T) := (bc_ BK11.out 2).trans rfl; have hx3 : w7.cell? ⟨g11, 3, none⟩ = some (.slice A3 co.length c3) := (bc_ BK11.out 3).trans rfl; have hx4 : w7.cell? ⟨g11, 4, none⟩ = some (.slice A4 ac.length c4) := (bc_ BK11.out 4).trans rfl; have hx5 : w7.cell? ⟨g11, 5, none⟩ = some (.slice (some ⟨gh, 0, none⟩) n n) := (bc_ BK11.out 5).trans rfl; have hx6 : w7.cell? ⟨g11, 6, none⟩ = some (.int .i64 0) := (bc_ BK11.out 6).trans rfl; have hx7 : w7.cell? ⟨g11, 7, none⟩ = some (.slice none 0 0) := (bc_ BK11.out 7).trans rfl
 go_wp2_with (first
  | ((with_reducible refine gdt (N := 35) rfl ?_); refine wp_copy_rows (g := gh) (n := n) (m := ta.length) (okS := fun k => k < w.heap.size) (xs := ta) rfl _ _ rfl rfl rfl HM.out (by have := HN2.out; omega) (Kd.F_below (Kd.C_F (Kd.heap_slice 22 (Kd.heap_int .u64)) H5.out) HBC.out) (fun k hk e => by have := GEH.out; omega) BKH.out ?_; intro w9 v9 hF9 hK9 hB9; have hne11 : g11 ≠ gh := fun e => (by have h1 := BK11.out; rw [e, BKH.out] at h1; injection h1 with h1; injection h1 with _ h1; exact absurd h1 (by decide)); have hne8 : g8 ≠ gh := fun e => (by have h1 := BK8.out; rw [e, BKH.out] at h1; injection h1 with h1; injection h1 with _ h1; exact absurd h1 (by decide)); have BK11 := Qz.mk (bkk BK11.out hK9 hne11); have BK8 := Qz.mk (bkk BK8.out hK9 hne8); have HBC := Qz.mk (hB9 _ _ HBC.out GEH.out); rw [← HTX.out] at hF9; have HF9 := Qz.mk (Kd.F_mono hF9 (fun k hk => (by rcases hk with hk | hk; (intro e; have := GE8.out; omega); (intro e; exact hne8 (e.symm.trans hk)) : k ≠ g8))); clear hF9 hK9 hB9 hne8 hne11 BKH hx0 hx1 hx2 hx3 hx4 hx5 hx6 hx7; have hy0 : w9.cell? ⟨g11, 0, none⟩ = some (.int .u64 P) := (bc_ BK11.out 0).trans rfl; have hy1 : w9.cell? ⟨g11, 1, none⟩ = some (.int .i64 (n : Int)) := (bc_ BK11.out 1).trans rfl; have hy2 : w9.cell? ⟨g11, 2, none⟩ = some (.int .i64 T) := (bc_ BK11.out 2).trans rfl; have hy3 : w9.cell? ⟨g11, 3, none⟩ = some (.slice A3 co.length c3) := (bc_ BK11.out 3).trans rfl; have hy4 : w9.cell? ⟨g11, 4, none⟩ = some (.slice A4 ac.length c4) := (bc_ BK11.out 4).trans rfl; have hy5 : w9.cell? ⟨g11, 5, none⟩ = some (.slice (some ⟨gh, 0, none⟩) n n) := (bc_ BK11.out 5).trans rfl; have hy6 : w9.cell? ⟨g11, 6, none⟩ = some (.int .i64 0) := (bc_ BK11.out 6).trans rfl; have hy7 : w9.cell? ⟨g11, 7, none⟩ = some (.slice none 0 0) := (bc_ BK11.out 7).trans rfl)
  | (go_at_call 11; have hcc := (net_Check.calls k P (n : Int) T A3 c3 co A4 c4 ac (some ⟨gh, 0, none⟩) n tx 0 none 0 [] 0 w9 (Kd.C_below H3.out HBC.out) H3L.out (Kd.C_below H4.out HBC.out) H4L.out (by rw [HTL.out]; exact Kd.F_now HF9.out) (by rw [HTL.out]; exact Nat.le_refl _) (Kd.C_nil _ _) (Nat.le_refl _) HK.out); rw [HTL.out] at hcc; refine hcc.mono ?_; clear hcc; rintro e wd ⟨rfl, hbd⟩; have BK11 := Qz.mk (bkb BK11.out hbd); have BK8 := Qz.mk (bkb BK8.out hbd); have HF9 := Qz.mk (Kd.F_below HF9.out hbd); have HBC := Qz.mk (HBC.out.trans (hbd.mono HBC.out.size)); clear hbd hy0 hy1 hy2 hy3 hy4 hy5 hy6 hy7; have hx0 : wd.cell? ⟨g11, 0, none⟩ = some (.int .u64 P) := (bc_ BK11.out 0).trans rfl; have hx1 : wd.cell? ⟨g11, 1, none⟩ = some (.int .i64 (n : Int)) := (bc_ BK11.out 1).trans rfl; have hx2 : wd.cell? ⟨g11, 2, none⟩ = some (.int .i64 T) := (bc_ BK11.out 2).trans rfl; have hx3 : wd.cell? ⟨g11, 3, none⟩ = some (.slice A3 co.length c3) := (bc_ BK11.out 3).trans rfl; have hx4 : wd.cell? ⟨g11, 4, none⟩ = some (.slice A4 ac.length c4) := (bc_ BK11.out 4).trans rfl; have hx5 : wd.cell? ⟨g11, 5, none⟩ = some (.slice (some ⟨gh, 0, none⟩) n n) := (bc_ BK11.out 5).trans rfl; have hx6 : wd.cell? ⟨g11, 6, none⟩ = some (.int .i64 0) := (bc_ BK11.out 6).trans rfl; have hx7 : wd.cell? ⟨g11, 7, none⟩ = some (.slice none 0 0) := (bc_ BK11.out 7).trans rfl; have hz0 : wd.cell? ⟨g8, 0, none⟩ = some (.int .u64 0) := (bc_ BK8.out 0).trans rfl; have hz1 : wd.cell? ⟨g8, 1, none⟩ = some (.int .i64 0) := (bc_ BK8.out 1).trans rfl; have hz2 : wd.cell? ⟨g8, 2, none⟩ = some (.int .i64 0) := (bc_ BK8.out 2).trans rfl; have hz3 : wd.cell? ⟨g8, 3, none⟩ = some (.slice none 0 0) := (bc_ BK8.out 3).trans rfl; have hz4 : wd.cell? ⟨g8, 4, none⟩ = some (.slice none 0 0) := (bc_ BK8.out 4).trans rfl; have hz5 : wd.cell? ⟨g8, 5, none⟩ = some (.slice none 0 0) := (bc_ BK8.out 5).trans rfl; have hz6 : wd.cell? ⟨g8, 6, none⟩ = some (.int .i64 0) := (bc_ BK8.out 6).trans rfl; have hz7 : wd.cell? ⟨g8, 7, none⟩ = some (.slice none 0 0) := (bc_ BK8.out 7).trans rfl; have hf0 := bf_ BK8.out 0; have hf1 := bf_ BK8.out 1; have hf2 := bf_ BK8.out 2; have hf3 := bf_ BK8.out 3; have hf4 := bf_ BK8.out 4; have hf5 := bf_ BK8.out 5; have hf6 := bf_ BK8.out 6; have hf7 := bf_ BK8.out 7)
  | (go_at_call 46; have hcc := (nCl.calls (⟨⟨P, (n : Int), T⟩, co, ac, tx, 0, []⟩ : S30) HCL.out (fun k => k ≠ g8) A3 c3 A4 c4 (some ⟨gh, 0, none⟩) n none 0 wd (show XF wd (fun k => k ≠ g8) (⟨⟨P, (n : Int), T⟩, co, ac, tx, 0, []⟩ : S30) A3 c3 A4 c4 (some ⟨gh, 0, none⟩) n none 0 from ⟨H3L.out, Kd.F_mono (Kd.F_below (Kd.C_F (Kd.heap_int .i64) H3.out) HBC.out) (fun k hk e => by have := GE8.out; omega), H4L.out, Kd.F_mono (Kd.F_below (Kd.C_F k72_heap H4.out) HBC.out) (fun k hk e => by have := GE8.out; omega), (by show tx.length ≤ n; rw [HTL.out]; exact Nat.le_refl _), (by show Kd.F kD wd _ _ tx.length tx; rw [HTL.out]; exact HF9.out), Nat.le_refl _, Kd.F_nil _ _ _⟩)); rw [show wv (⟨⟨P, (n : Int), T⟩, co, ac, tx, 0, []⟩ : S30) A3 c3 A4 c4 (some ⟨gh, 0, none⟩) n none 0 = #[.int .u64 P, .int .i64 (n : Int), .int .i64 T, .slice A3 co.length c3, .slice A4 ac.length c4, .slice (some ⟨gh, 0, none⟩) n n, .int .i64 0, .slice none 0 0] from by simp only [wv]; rw [HTL.out]; rfl] at hcc; refine hcc.mono ?_; clear hcc; rintro e wk ⟨m4, m5, m7, B3, b3, B4, b4, B5, b5, B7, b7, rfl, hclo⟩; have GL8 := Qz.mk (blt BK8.out); have hok8 : ∀ k, ((k ≠ g8 ∧ k < wd.heap.size) ∨ wd.heap.size ≤ k) → k ≠ g8 := fun k hk => hk.elim (fun q => q.1) (fun q e => by have := GL8.out; omega); have HF3 := Qz.mk (show Kd.F (Kd.int .i64) wk (fun k => k ≠ g8) B3 co.length co from hclo.f3 (fun k hk _ => hok8 k hk)); have HF4 := Qz.mk (show Kd.F k72 wk (fun k => k ≠ g8) B4 ac.length ac from hclo.f4 (fun k hk _ => hok8 k hk)); have HF5 := Qz.mk (show Kd.F kD wk (fun k => k ≠ g8) B5 tx.length tx from hclo.f5 (fun k hk _ => hok8 k hk)); have HF7 := Qz.mk (show Kd.F k77 wk (fun k => k ≠ g8) B7 0 [] from Kd.N_F (hclo.s7 (fun k hk => hok8 k hk))); have HLB3 := Qz.mk (show co.length ≤ b3 from hclo.l3); have HLB4 := Qz.mk (show ac.length ≤ b4 from hclo.l4); have HLB5 := Qz.mk (show tx.length ≤ b5 from hclo.l5); have HLB7 := Qz.mk (show 0 ≤ b7 from hclo.l7); have HKB := Qz.mk hclo.bl; clear hclo hok8 hx0 hx1 hx2 hx3 hx4 hx5 hx6 hx7 hz0 hz1 hz2 hz3 hz4 hz5 hz6 hz7 hf0 hf1 hf2 hf3 hf4 hf5 hf6 hf7; have BK8 := Qz.mk (bkb BK8.out HKB.out); have BK80 := BK8; have hz0 : wk.cell? ⟨g8, 0, none⟩ = some (.int .u64 0) := (bc_ BK8.out 0).trans rfl; have hz1 : wk.cell? ⟨g8, 1, none⟩ = some (.int .i64 0) := (bc_ BK8.out 1).trans rfl; have hz2 : wk.cell? ⟨g8, 2, none⟩ = some (.int .i64 0) := (bc_ BK8.out 2).trans rfl; have hz3 : wk.cell? ⟨g8, 3, none⟩ = some (.slice none 0 0) := (bc_ BK8.out 3).trans rfl; have hz4 : wk.cell? ⟨g8, 4, none⟩ = some (.slice none 0 0) := (bc_ BK8.out 4).trans rfl; have hz5 : wk.cell? ⟨g8, 5, none⟩ = some (.slice none 0 0) := (bc_ BK8.out 5).trans rfl; have hz6 : wk.cell? ⟨g8, 6, none⟩ = some (.int .i64 0) := (bc_ BK8.out 6).trans rfl; have hz7 : wk.cell? ⟨g8, 7, none⟩ = some (.slice none 0 0) := (bc_ BK8.out 7).trans rfl; have hf0 := bf_ BK8.out 0; have hf1 := bf_ BK8.out 1; have hf2 := bf_ BK8.out 2; have hf3 := bf_ BK8.out 3; have hf4 := bf_ BK8.out 4; have hf5 := bf_ BK8.out 5; have hf6 := bf_ BK8.out 6; have hf7 := bf_ BK8.out 7))
 rw [show ((((((((wk.setCell ⟨g8, 0, none⟩ (.int .u64 P)).setCell ⟨g8, 1, none⟩ (.int .i64 (n : Int))).setCell ⟨g8, 2, none⟩ (.int .i64 T)).setCell ⟨g8, 3, none⟩ (.slice B3 co.length b3)).setCell ⟨g8, 4, none⟩ (.slice B4 ac.length b4)).setCell ⟨g8, 5, none⟩ (.slice B5 tx.length b5)).setCell ⟨g8, 6, none⟩ (.int .i64 0)).setCell ⟨g8, 7, none⟩ (.slice B7 0 b7)) = put8 wk g8 (.int .u64 P) (.int .i64 (n : Int)) (.int .i64 T) (.slice B3 co.length b3) (.slice B4 ac.length b4) (.slice B5 tx.length b5) (.int .i64 0) (.slice B7 0 b7) from rfl]
 have hK8 := kept8 wk g8 (.int .u64 P) (.int .i64 (n : Int)) (.int .i64 T) (.slice B3 co.length b3) (.slice B4 ac.length b4) (.slice B5 tx.length b5) (.int .i64 0) (.slice B7 0 b7)
 have BK8 := blk8 BK8.out (.int .u64 P) (.int .i64 (n : Int)) (.int .i64 T) (.slice B3 co.length b3) (.slice B4 ac.length b4) (.slice B5 tx.length b5) (.int .i64 0) (.slice B7 0 b7)
 have HBZ := below8 (HBC.out.trans (HKB.out.mono HBC.out.size)) GE8.out (.int .u64 P) (.int .i64 (n : Int)) (.int .i64 T) (.slice B3 co.length b3) (.slice B4 ac.length b4) (.slice B5 tx.length b5) (.int .i64 0) (.slice B7 0 b7)
 generalize hwz : put8 wk g8 (.int .u64 P) (.int .i64 (n : Int)) (.int .i64 T) (.slice B3 co.length b3) (.slice B4 ac.length b4) (.slice B5 tx.length b5) (.int .i64 0) (.slice B7 0 b7) = wz at hK8 BK8 HBZ ⊢
 have g3 := Kd.F_now (Kd.F_kept HF3.out hK8 (fun k hk e => hk e))
 have g4 := Kd.F_now (Kd.F_kept HF4.out hK8 (fun k hk e => hk e))
 have g5 := Kd.F_now (Kd.F_kept HF5.out hK8 (fun k hk e => hk e))
 have g7 := Kd.F_now (Kd.F_kept HF7.out hK8 (fun k hk e => hk e))
 refine bodyPost_ret (results_list (rs := [.cell 8 30, .tmp 9]) rfl (by simp) (.cell g8 30 #[.int .u64 P, .int .i64 (n : Int), .int .i64 T, .slice B3 co.length b3, .slice B4 ac.length b4, .slice B5 tx.length b5, .int .i64 0, .slice B7 0 b7] (0, 0) _ rfl BK8 Try.underlying30 rfl (by kernel_rfl) (.tmp .nil))) (by rfl) ?_
 refine ⟨B3, b3, B4, b4, B5, b5, B7, b7, rfl, ?_, HBZ⟩
 exact k30_mk wz (⟨⟨P, (n : Int), T⟩, co, ac, tx, 0, []⟩ : S30) HLB3.out g3 HLB4.out g4 HLB5.out g5 HLB7.out g7
end
end Go.Proofs.Ytkaikgbcnmfppaa.Nb
